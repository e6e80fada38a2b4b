/- 0. Conditions: none. -/
import Derived.Below
import Derived.ProofKit
import Derived.OpenShut
import Derived.SizedLaws
import Derived.Deep.Slices
import Derived.Deep.DeepHandedRow
import Derived.Lib.LaidTab
import Derived.WalkKit
import Derived.Scope
import Derived.KernelRfl
import Derived.Lib.FrozenHead
import Derived.TacticsIn
import Derived.OrdersIn
import Derived.RangeFuncRecord
import Derived.Laws.CopyRow
import Derived.Laws.MakeOwn
import Derived.Laws.IdiomStrings
namespace Go
abbrev z1:=@List.getElem?_eq_getElem
abbrev z6:=@List.getElem?_map
abbrev z7:=@if_neg
abbrev ze:=@congrArg
abbrev zf:=@List.getElem?_eq_some_iff
abbrev zg:=@List.length_append
abbrev zh:=@if_pos
abbrev zi:=@List.take_of_length_le
abbrev zj:=@Option.some.injEq
abbrev zk:=@Bool.and_eq_true
abbrev zl:=@List.getD_eq_getElem?_getD
abbrev zm:=@List.getElem_mem
abbrev zn:=@List.getElem?_append_left
abbrev zo:=@Nat.le_refl
abbrev zq:=@List.drop_eq_getElem_cons
abbrev zu:=@List.length_take
abbrev zw:=@List.prefix_rfl
abbrev zx:=@List.getElem?_append_right
abbrev zy:=@Nat.zero_add
abbrev zz:=@Array.getElem?_eq_some_iff
abbrev zA:=@List.length_map
abbrev zB:=@Option.map_eq_some_iff
abbrev zC:=@List.prefix_append
abbrev zD:=@Bool.and_self
abbrev zF:=@List.length_drop
abbrev zG:=@Bool.and_true
abbrev zH:=@List.take_succ_eq_append_getElem
abbrev zI:=@List.map_cons
abbrev zJ:=@List.length_eq_zero_iff
abbrev zK:=@List.mem_cons
abbrev zL:=@List.mem_singleton
abbrev zM:=@List.append_assoc
abbrev zN:=@List.drop_eq_nil_of_le
abbrev zO:=@List.append_nil
abbrev zP:=@Nat.le_trans
abbrev zQ:=@List.getElem?_take
abbrev zR:=@List.all_eq_true
abbrev zS:=@List.getElem?_eq_none
abbrev zT:=@Nat.le_of_ble_eq_true
abbrev zU:=@List.mem_of_getElem?
abbrev zV:=@List.mem_cons_of_mem
abbrev zW:=@List.mem_append
abbrev zX:=@List.take_length
abbrev zY:=@List.mem_map
abbrev zZ:=@Bool.eq_iff_iff
abbrev y5:=@List.mem_cons_self
abbrev y6:=@Array.getD_eq_getD_getElem?
abbrev y7:=@Array.getElem?_modify
abbrev y8:=@List.getElem?_drop
abbrev y9:=@Nat.lt_or_ge
abbrev yc:=@decide_eq_true_eq
abbrev yd:=@Array.getElem?_append_left
abbrev ye:=@decide_eq_false
abbrev yg:=@dif_pos
abbrev yh:=@List.mem_range
abbrev yj:=@List.map_append
abbrev yl:=@List.size_toArray
abbrev ym:=@decide_eq_false_iff_not
abbrev yo:=@Nat.mul_le_mul_right
abbrev yp:=@List.getElem?_modify
abbrev yq:=@List.pairwise_cons
abbrev yt:=@List.drop_drop
abbrev yu:=@decide_eq_true
abbrev yw:=@List.length_mergeSort
abbrev yx:=@List.ext_getElem?
abbrev yy:=@decide_eq_true_iff
abbrev yz:=@List.getElem_map
abbrev yA:=@List.idxOf_lt_length_of_mem
abbrev yB:=@Nat.succ_mul
abbrev yC:=@Array.ext'
abbrev yD:=@List.drop_zero
abbrev yE:=@Decidable.byContradiction
abbrev yF:=@Prod.mk.injEq
abbrev yG:=@List.getElem?_range
abbrev yH:=@List.map_nil
abbrev yI:=@Bool.or_eq_true
abbrev yJ:=@List.cons.injEq
abbrev yK:=@dif_neg
abbrev yL:=@Nat.lt_of_lt_of_le
abbrev yM:=@List.take_append_drop
abbrev yN:=@List.length_replicate
abbrev yO:=@List.map_congr_left
abbrev yP:=@Array.getElem?_eq_getElem
abbrev yQ:=@Nat.min_eq_left
abbrev yR:=@if_true
abbrev yS:=@Nat.blt_eq
abbrev yT:=@Nat.zero_mul
abbrev yU:=@List.length_range
abbrev yV:=@List.pairwise_iff_getElem
abbrev yW:=@Array.getElem?_setIfInBounds
abbrev yX:=@Ne.symm
abbrev yY:=@List.getElem?_toArray
abbrev yZ:=@Int.tdiv_eq_ediv_of_nonneg
abbrev x5:=@beq_iff_eq
abbrev x6:=@List.getElem_range
abbrev x7:=@List.getElem_idxOf
abbrev x8:=@List.map_replicate
abbrev x9:=@List.ext_getElem
abbrev xd:=@Bool.cond_eq_ite
abbrev xe:=@not_false_eq_true
abbrev xg:=@List.flatMap_cons
abbrev xh:=@List.set_append_right
abbrev xk:=@List.take_append_of_le_length
abbrev xl:=@Nat.eq_zero_or_pos
abbrev xm:=@List.getElem_inj
abbrev xo:=@and_true
abbrev xq:=@Array.size_mapIdx
abbrev xu:=@Bool.if_false_right
abbrev xw:=@Nat.add_assoc
abbrev xx:=@List.map_take
abbrev xy:=@Nat.mod_eq_of_lt
abbrev xA:=@List.not_mem_nil
abbrev xB:=@List.mem_flatMap
abbrev xC:=@Nat.mul_one
abbrev xD:=@List.nil_prefix
abbrev xE:=@List.length_set
abbrev xF:=@List.map_map
abbrev xG:=@UInt8.toNat_ofNat_of_lt'
abbrev xH:=@List.getElem?_set
abbrev xI:=@Bool.if_true_left
abbrev xJ:=@Bool.false_or
abbrev xK:=@Iff.rfl
abbrev xL:=@List.any_eq_true
abbrev xM:=@Nat.add_mul
abbrev xN:=@Nat.le_succ
abbrev xO:=@Nat.zero_le
abbrev xP:=@Array.getElem?_eq_none
abbrev xQ:=@List.map_set
abbrev xR:=@Array.ext_getElem?
abbrev xS:=@Nat.sub_self
abbrev xT:=@List.all_append
abbrev xU:=@List.mem_append_right
abbrev xV:=@true_and
abbrev xW:=@Int.tmod_eq_emod_of_nonneg
abbrev xX:=@Array.size_modify
abbrev xY:=@Classical.byContradiction
abbrev xZ:=@List.mem_iff_getElem
abbrev v7:=@List.take_take
abbrev v8:=@if_false
abbrev ve:=@Int.sub_zero
abbrev vg:=@decide_eq_decide
abbrev vh:=@List.nodup_range
abbrev vi:=@Array.getElem?_push
abbrev vj:=@List.mem_map_of_mem
abbrev vk:=@List.mergeSort_perm
abbrev vm:=@List.mem_singleton_self
abbrev vn:=@List.getLast_eq_getElem
abbrev vo:=@Bool.true_and
abbrev vp:=@Bool.not_true
abbrev vq:=@List.nodup_cons
abbrev vr:=@Int.mul_le_mul_of_nonneg_right
abbrev vt:=@UInt8.toNat_ofNat'
abbrev vu:=@List.getElem?_set_self
abbrev vv:=@List.drop_append_of_le_length
abbrev vw:=@List.getLast?_eq_some_getLast
abbrev vz:=@List.getElem_take
abbrev vA:=@Nat.mul_comm
abbrev vB:=@UInt8.lt_iff_toNat_lt
abbrev vC:=@Array.getElem?_mapIdx
abbrev vD:=@List.length_filter_le
abbrev vE:=@List.eq_replicate_iff
abbrev vF:=@List.Perm.refl
abbrev vG:=@List.mem_of_mem_drop
abbrev vH:=@List.mem_append_left
abbrev vI:=@List.drop_length
abbrev vJ:=@List.filter_cons
abbrev vK:=@List.getElem_set
abbrev vL:=@List.map_drop
abbrev vM:=@Int.fdiv_eq_ediv_of_nonneg
abbrev vN:=@List.nodup_iff_pairwise_ne
abbrev vO:=@List.drop_succ_cons
abbrev vP:=@List.getElem_of_mem
abbrev vQ:=@Int.toNat_of_nonneg
abbrev vR:=@Option.isSome_iff_exists
abbrev vS:=@Int.lt_or_eq_of_le
abbrev vT:=@List.mapM_cons
abbrev vU:=@Bool.and_assoc
abbrev vV:=@Option.bind_eq_some_iff
abbrev vW:=@List.getElem?_replicate
abbrev vX:=@Array.size_append
abbrev vY:=@List.pairwise_map
abbrev vZ:=@List.foldl_append
abbrev u0:=@List.getElem_replicate
abbrev u5:=@List.length_eq_one_iff
abbrev u6:=@Array.getElem!_eq_getD
abbrev u7:=@List.drop_of_length_le
abbrev u9:=@Nat.le_of_not_lt
abbrev ua:=@Nat.lt_succ_self
abbrev uc:=@Nat.eq_of_beq_eq_true
abbrev ud:=@Bool.not_eq_eq_eq_not
abbrev uf:=@List.mem_of_mem_take
abbrev ug:=@Array.size_push
abbrev uh:=@Array.size_replicate
abbrev uj:=@UInt8.toNat_inj
abbrev uk:=@List.sum_append
abbrev um:=@Option.some.inj
abbrev uo:=@List.mem_filter
abbrev uq:=@List.getElem!_eq_getElem?_getD
abbrev ur:=@List.eq_nil_iff_forall_not_mem
abbrev uu:=@List.range_succ
abbrev uv:=@List.flatMap_append
abbrev uw:=@or_false
abbrev ux:=@Option.map_map
abbrev uy:=@List.drop_take
abbrev uz:=@Array.foldl_toList
abbrev uA:=@List.length_modify
abbrev uB:=@List.mem_mergeSort
abbrev uC:=@Nat.lt_or_eq_of_le
abbrev uD:=@not_true_eq_false
abbrev uE:=@Array.mapM_eq_mapM_toList
abbrev uF:=@Nat.beq_refl
abbrev uG:=@Array.toList_map
abbrev uH:=@List.take_prefix
abbrev uI:=@Int.add_zero
abbrev uJ:=@Int.le_trans
abbrev uK:=@Bool.not_eq_true
abbrev uL:=@List.eq_of_mem_replicate
abbrev uM:=@List.pairwise_mergeSort
abbrev uN:=@Int.eq_ofNat_of_zero_le
abbrev uO:=@Option.map_eq_none_iff
abbrev uP:=@Array.getElem?_toList
abbrev uQ:=@Nat.mod_lt
abbrev uR:=@ByteArray.ext
abbrev uS:=@Nat.lt_irrefl
abbrev uT:=@Nat.add_comm
abbrev uU:=@Nat.min_self
abbrev uV:=@decide_false
abbrev uW:=@Bool.or_true
end Go
set_option linter.unusedVariables false
namespace Go.Our
open Go.RowKit Go.ChangeShapes Go.WideShapes Go.ChangeAt
section
variable {H:Type}{enc:TypeId×Value->H}{P:Program}
theorem P8(hl:laidOutB P=true){W W':World}(hb:Below W.heap.size W W'):
 ∀(ts:List TypeId) (vs:List Value) (ds:List (DataW H)) (ps:List MemPlace),(∀t∈ts,P.readableRec t=true/\t<P.types.size)->
  DataW.TrodAll enc P W 0 (fun _=>true) true ts vs ds ps->(∀x∈ps,x.block<W.heap.size)->DataW.TrodAll enc P W' 0 (fun b=>decide (b<W.heap.size)) true ts vs ds ps
 | [],[],[],ps,_,h,_=>h
 |t::ts,v::vs,d::ds,ps,ht,⟨p,q,h1,h2,hpq⟩,hlt=>
  ⟨p,q,Below.trod hl (ht t (by simp)).1 (ht t (by simp)).2 h1 hb (fun x hx=>hlt x (by rw[hpq];simp[hx])),
   P8 hl hb ts vs ds q (fun t' h'=>ht t' (by simp[h'])) h2 (fun x hx=>hlt x (by rw[hpq];simp[hx])),hpq⟩
 | [],[],_::_,_,_,h,_=>h.elim
 | [],_::_,_,_,_,h,_=>h.elim
 |_::_,[],_,_,_,h,_=>h.elim
 |_::_,_::_,[],_,_,h,_=>h.elim
theorem ZgF{f:Func}{s:ChangeSpec}{W W':World}{args:Array Value}{ds gs:List (DataW H)}{before:List MemPlace}{tb:TypeId}
 (hl:laidOutB P=true) (hts:∀t∈f.params.toList,P.readableRec t=true/\t<P.types.size) (hr:f.resultTypes= #[tb]) (KN:P.underlying tb=some .bool)
 (hW:DataW.Whole enc P f.params.toList s.vars false W args.toList ds gs before) (hvars:s.vars=[]) (hres:(s.fn H (ds++gs)).results=[.lit (.bool true)]) (hargs:(s.fn H (ds++gs)).args=ds)
 (hv:(s.fn H (ds++gs)).vars=[]) (hb:Below W.heap.size W W'):s.post enc P f false true false false W args (.bool true) W':=by
 have hlt:=hW.lt;have hW':=hW;obtain⟨p,q,hA,hV,hpq,hfz,hnd⟩:=hW;refine⟨ds,gs,before,[],p,[],hW',?_,?_,?_,hb.frame _,fun h=>by cases h⟩
 .rw[hres,hr];exact trodAll_mk1 (shut_bool KN true)
 .rw[hargs];exact P8 hl hb _ _ _ _ hts hA (fun x hx=>by simpa using hlt x (by rw[hpq];simp[hx]))
 .rw[hv,hvars]
  rfl
theorem Dq{l r:List Nat}(h:(l++r).all (· <=reachBytes)=true):l.all (· <=reachBytes)=true:=by rw[xT,zk]at h;exact h.1
theorem P9{l r:List Nat}(h:(l++r).all (· <=reachBytes)=true):r.all (· <=reachBytes)=true:=by rw[xT,zk]at h;exact h.2
end
end Go.Our
namespace Go.Sx
open Go
inductive qP where
 |qf (g:Nat)
 |loc (i:Nat)
inductive SV where
 |bool (b:Bool)
 |int (k:IntKind) (n:Int)
 |str (s:List UInt8)
 |ptr (b:qP) (r es c:Nat)
 |sl (b:qP) (r es len:Nat) (lim:Option Nat)
 |val (v:Value)
 |agg (cs:List SV)
 |arr (es:Nat) (rs:List (List SV))
 |wM (vs:List SV)
 |dX (t:TypeId) (v:SV)
 |fn (f:Fn) (first cap:List SV)
 |mp (b:qP)
 |yf (b:qP)
 |eE (l:List SV)
 |nb (n:Nat)
 |any
structure rI where
 N:Nat
 ps:List Nat
 cM:Code
 body:Code
inductive pT where
 |ready|busy|left (jump:Option Nat)
inductive DC where
 |v (s:SV)
 |wZ (es:Nat) (rows:List (List SV))
inductive Hp where
 |box (row:List SV)
 |rows (es:Nat) (rs:List (List SV))
 |qM (s:List UInt8) (pos:Nat)
 |ak (vs:List Value)
 |jJ (T e:TypeId) (l:List UInt8)
 |mp (rs:List (List SV))
 |eP (far:List Nat)
 |lp (st:pT) (li:rI) (fr:List (Nat×SV))
 |deep (mp:Bool) (es:Nat) (rs:List (List DC))
mutual
def plain:SV->Bool
 | .bool _| .int _ _| .str _| .val _| .any| .nb _=>true
 | .ptr (.qf _) _ _ _=>true
 | .ptr (.loc _) _ _ _=>false
 | .sl (.qf _) _ _ _ _=>true
 | .sl (.loc _) _ _ _ _=>false
 | .agg cs=>YM cs
 | .arr _ rs=>Zp rs
 | .wM vs=>YM vs
 | .dX _ v=>plain v
 | .fn _ a b=>YM a&&YM b
 | .mp (.qf _)=>true
 | .mp (.loc _)=>false
 | .yf _=>false
 | .eE _=>false
def YM:List SV->Bool
 | []=>true
 |c::cs=>plain c&&YM cs
def Zp:List (List SV)->Bool
 | []=>true
 |r::rs=>YM r&&Zp rs
end
def QY:List (Nat×SV)->Bool
 | []=>true
 |(_,v)::r=>plain v&&QY r
def ia:DC->Bool
 | .v s=>plain s
 | .wZ _ rs=>Zp rs
def JM:List DC->Bool
 | []=>true
 |c::cs=>ia c&&JM cs
def YU:List (List DC)->Bool
 | []=>true
 |r::rs=>JM r&&YU rs
def V1:Hp->Bool
 | .box row=>YM row
 | .rows _ rs=>Zp rs
 | .qM _ _=>true
 | .ak _=>true
 | .jJ _ _ _=>true
 | .mp rs=>Zp rs
 | .eP _=>true
 | .lp _ _ fr=>QY fr
 | .deep _ _ rs=>YU rs
inductive Sh where
 |int (k:IntKind)|bool|str
 |ptr (e:TypeId)|slice (e:TypeId)|array (n:Nat) (e:TypeId)
 |struct (fs:List (Nat×TypeId))
 |map (k e:TypeId)|iface|func|plain|other
inductive CK where
 |int (k:IntKind)|str|bool
structure kE where
 sh:TypeId->Sh
 size:TypeId->Nat
 zero:TypeId->List SV
 bytes:TypeId->Nat
 flat:TypeId->Option (List CK)
 jc:List (Nat×Hp):=[]
 jJ:Option (TypeId×TypeId):=none
 key:TypeId->Option (Bool×List CK):=fun _=>none
 bI:(jc.all fun p=>V1 p.2)=true:=by rfl
def wu{Y:Type}(t:Nat):List (Nat×Y)->Option Y
 | []=>none
 |(d,v)::r=>match Nat.beq t d with|true=>some v|false=>wu t r
def ow:qP->qP->Bool
 | .qf a, .qf b=>Nat.beq a b
 | .loc a, .loc b=>Nat.beq a b
 |_,_=>false
def jd{Y:Type}(b:qP):List (qP×Y)->Option Y
 | []=>none
 |(d,v)::r=>match ow b d with|true=>some v|false=>jd b r
def qh{Y:Type}(t:Nat)(v:Y):List (Nat×Y)->List (Nat×Y)
 | []=>[]
 |(d,u)::r=>match Nat.beq t d with|true=>(d,v)::r|false=>(d,u)::qh t v r
def qy{Y:Type}(t:Nat):List (Nat×Y)->List (Nat×Y)
 | []=>[]
 |(d,u)::r=>match Nat.beq t d with|true=>qy t r|false=>(d,u)::qy t r
def nth{Y:Type}:List Y->Nat->Option Y
 | [],_=>none
 |x::_,0=>some x
 |_::r,n+1=>nth r n
def J9:IntKind->IntKind->Bool
 | .i8, .i8| .i16, .i16| .i32, .i32| .i64, .i64| .u8, .u8| .u16, .u16| .u32, .u32| .u64, .u64=>true
 |_,_=>false
def kr(k:IntKind)(a b:Int):Int:=k.wrap ((BitVec.ofInt k.bits a&&&BitVec.ofInt k.bits b).toNat)
def oV(k:IntKind)(a b:Int):Int:=k.wrap ((BitVec.ofInt k.bits a|||BitVec.ofInt k.bits b).toNat)
def ox(k:IntKind)(a b:Int):Int:=k.wrap ((BitVec.ofInt k.bits a^^^BitVec.ofInt k.bits b).toNat)
def Pa(k:IntKind)(a b:Int):Int:=k.wrap ((BitVec.ofInt k.bits a&&& ~~~(BitVec.ofInt k.bits b)).toNat)
def ax(k:IntKind)(a b:Int):Int:=k.wrap (a*2^ (min b.toNat k.bits))
def je(k:IntKind)(a b:Int):Int:=a.fdiv (2^ (min b.toNat k.bits))
def Z1(s:List UInt8)(i:Int):Int:=((s.getD i.toNat 0).toNat:Int)
def QZ(a b:List UInt8):Bool:=Op.bytesLess a b
inductive wW where
 |val (v:SV)
 |new (v:SV) (h:Hp)
 |fu (i:Nat) (h:Hp) (v:SV)
 |dG (i:Nat) (h:Hp) (v:SV)
 |need (p:Prop) (k:wW)
 |get (rs:List (List SV)) (i:Nat) (k:List SV->wW)
 |ite (b:Bool) (x y:wW)
 |find (r:Option (Nat×SV)) (f:Nat->SV->wW) (x:wW)
 |findD (r:Option (Nat×DC)) (f:Nat->DC->wW) (x:wW)
 |take (i:Nat) (h h2:Hp) (v:SV)
 |dZ (i:Nat) (h:Hp) (k:Nat) (v:SV)
 |fail
def Dr(op:BinOp)(k k':IntKind)(a b:Int):wW:=
 match op with
 | .shl=> .need (0<=b) (.val (.int k (ax k a b)))
 | .shr=> .need (0<=b) (.val (.int k (je k a b)))
 |_=>match J9 k k' with
  |false=> .fail
  |true=>match op with
   | .add=> .val (.int k (k.wrap (a+b)))
   | .sub=> .val (.int k (k.wrap (a-b)))
   | .mul=> .val (.int k (k.wrap (a*b)))
   | .quo=> .need (b≠0) (.val (.int k (k.wrap (a.tdiv b))))
   | .rem=> .need (b≠0) (.val (.int k (a.tmod b)))
   | .and=> .val (.int k (kr k a b))
   | .or=> .val (.int k (oV k a b))
   | .xor=> .val (.int k (ox k a b))
   | .andNot=> .val (.int k (Pa k a b))
   | .eql=> .val (.bool (a==b))
   | .neq=> .val (.bool (a !=b))
   | .lss=> .val (.bool (decide (a<b)))
   | .leq=> .val (.bool (decide (a<=b)))
   | .gtr=> .val (.bool (decide (b<a)))
   | .geq=> .val (.bool (decide (b<=a)))
   |_=> .fail
def Ds(op:BinOp)(a b:List UInt8):wW:=
 match op with
 | .add=> .need (a.length+b.length<=9223372036854775807) (.val (.str (a++b)))
 | .eql=> .val (.bool (a==b))
 | .neq=> .val (.bool (a !=b))
 | .lss=> .val (.bool (QZ a b))
 | .leq=> .val (.bool (QZ a b||a==b))
 | .gtr=> .val (.bool (!(QZ a b||a==b)))
 | .geq=> .val (.bool (!(QZ a b)))
 |_=> .fail
def Zk:List CK->List SV->List SV->Option Bool
 | [],[],[]=>some true
 | .int k::ks, .int k1 a::xs, .int k2 b::ys=>
   match J9 k k1&&J9 k k2,Zk ks xs ys with
   |true,some r=>some (a==b&&r)
   |_,_=>none
 | .str::ks, .str a::xs, .str b::ys=>match Zk ks xs ys with|some r=>some (a==b&&r)|none=>none
 | .bool::ks, .bool a::xs, .bool b::ys=>match Zk ks xs ys with|some r=>some (a==b&&r)|none=>none
 |_,_,_=>none
def cellsOf:SV->Option (List SV)
 | .agg cs=>some cs
 | .arr _ rs=>some rs.flatten
 | .wM _=>none
 | .any=>none
 | .nb _=>none
 | .eE _=>none
 |v=>some [v]
def pU:Nat->List SV->Option (List SV)
 |0,_=>some []
 |n+1,c::cs=>match pU n cs with|some r=>some (c::r)|none=>none
 |_+1,[]=>none
def ic:List SV->List SV->Option (List SV)
 |row,[]=>some row
 |_::row,v::vs=>match ic row vs with|some r=>some (v::r)|none=>none
 | [],_::_=>none
def VU:Nat->List SV->List SV->Option (List SV)
 |0,row,vs=>ic row vs
 |c+1,x::row,vs=>match VU c row vs with|some r=>some (x::r)|none=>none
 |_+1,[],_=>none
def o6{Y:Type}:List Y->Nat->Bool
 | [],0=>true
 |_::xs,n+1=>o6 xs n
 |_,_=>false
def JS(es:Nat):Nat->List SV->Option (List (List SV))
 |0,[]=>some []
 |0,_::_=>none
 |n+1,cs=>match pU es cs with
  |some r=>match JS es n (cs.drop es)with|some rs=>some (r::rs)|none=>none
  |none=>none
def YH(T:kE)(t:TypeId)(cs:List SV):Option SV:=
 match T.sh t with
 | .struct _=>some (.agg cs)
 | .array _ _=>some (.agg cs)
 | .other=>none
 |_=>match cs with| [c]=>some c|_=>none
def oy(T:kE)(t:TypeId)(off:Nat)(row:List SV):wW:=
 match pU (T.size t) (row.drop off)with
 |some cs=>match YH T t cs with|some v=> .val v|none=> .fail
 |none=> .fail
def ZT:DC->SV
 | .v s=>s
 | .wZ _ _=> .any
def ZB(rs:List (List DC)):List (List SV):=rs.map fun r=>r.map ZT
def K0(T:kE)(hl:qP->Option Hp)(t:TypeId):SV->wW
 | .ptr b r es c=>
   match hl b with
   |some (.box row)=>match Nat.beq r 0 with|true=>oy T t c row|false=> .fail
   |some (.rows es' rs)=>
    match Nat.beq es es' with
    |true=>match T.sh t with
     | .array n e=>match Nat.beq (T.size e) es with
       |true=> .need (r=0/\c=0/\rs.length=n) (.val (.arr es rs))
       |false=> .get rs r fun row=>oy T t c row
     |_=> .get rs r fun row=>oy T t c row
    |false=> .fail
   |some (.deep false es' rs)=>match Nat.beq es es' with
    |true=> .get (ZB rs) r fun row=>oy T t c row
    |false=> .fail
   |_=> .fail
 |_=> .fail
def He(T:kE)(hO:Nat->Option Hp)(t:TypeId):SV->SV->wW
 | .ptr (.loc i) r es c,v=>
   match hO i with
   |some (.box row)=>match Nat.beq r 0,cellsOf v with
    |true,some vs=>match o6 vs (T.size t),VU c row vs with
     |true,some row=> .fu i (.box row) (.wM [])
     |_,_=> .fail
    |_,_=> .fail
   |some (.rows es' rs)=>
    match Nat.beq es es' with
    |true=>match T.sh t with
     | .array n e=>match Nat.beq (T.size e) es,Nat.beq (T.size t) (n*es)with
       |true,true=>match v with
        | .arr dH rs'=> .need (r=0/\c=0/\dH=es/\rs'.length=n/\rs.length=n) (.fu i (.rows es rs') (.wM []))
        | .agg cs=>match JS es n cs with
          |some rs'=> .need (r=0/\c=0/\rs.length=n) (.fu i (.rows es rs') (.wM []))
          |none=> .fail
        |_=> .fail
       |_,_=> .fail
     |_=>match cellsOf v with
      |some vs=>match o6 vs (T.size t)with
       |true=> .get rs r fun row=>match VU c row vs with
        |some row=> .fu i (.rows es (rs.set r row)) (.wM [])
        |none=> .fail
       |false=> .fail
      |none=> .fail
    |false=> .fail
   |_=> .fail
 |_,_=> .fail
def Yy:Value->SV
 | .bool b=> .bool b
 | .int k n=> .int k n
 | .string s=> .str s.data.toList
 | .agg _=> .any
 | .tuple vs=>match vs.toList with| []=> .wM []|_=> .any
 |v=> .val v
def KO:qP->(qP->Prop)->Prop
 | .qf g,K=>K (.qf g)
 | .loc i,K=>K (.loc i)
def KQ:SV->(SV->Prop)->Prop
 | .bool b,K=>K (.bool b)
 | .int k n,K=>K (.int k n)
 | .str s,K=>K (.str s)
 | .ptr b r es c,K=>KO b fun b=>K (.ptr b r es c)
 | .sl b r es len lim,K=>KO b fun b=>K (.sl b r es len lim)
 | .val v,K=>K (.val v)
 | .agg cs,K=>K (.agg cs)
 | .arr es rs,K=>K (.arr es rs)
 | .wM vs,K=>K (.wM vs)
 | .dX t v,K=>K (.dX t v)
 | .fn f a b,K=>K (.fn f a b)
 | .mp b,K=>KO b fun b=>K (.mp b)
 | .yf b,K=>KO b fun b=>K (.yf b)
 | .eE l,K=>K (.eE l)
 | .any,K=>K .any
 | .nb n,K=>K (.nb n)
def lU:List SV->(List SV->Prop)->Prop
 | [],K=>K []
 |c::cs,K=>KQ c fun c=>lU cs fun cs=>K (c::cs)
def Hf:SV->(SV->Prop)->Prop
 | .agg cs,K=>lU cs fun cs=>K (.agg cs)
 | .dX t v,K=>KQ v fun v=>K (.dX t v)
 | .fn f a b,K=>lU a fun a=>lU b fun b=>K (.fn f a b)
 |v,K=>KQ v K
def W1:List SV->(List SV->Prop)->Prop
 | [],K=>K []
 |c::cs,K=>Hf c fun c=>W1 cs fun cs=>K (c::cs)
def oz:SV->(SV->Prop)->Prop
 | .wM vs,K=>W1 vs fun vs=>K (.wM vs)
 |v,K=>Hf v K
def sR:Hp->(Hp->Prop)->Prop
 | .box row,K=>lU row fun row=>K (.box row)
 | .rows es rs,K=>K (.rows es rs)
 | .qM s p,K=>K (.qM s p)
 | .ak vs,K=>K (.ak vs)
 | .jJ T e l,K=>K (.jJ T e l)
 | .mp rs,K=>K (.mp rs)
 | .eP f,K=>K (.eP f)
 | .lp st li fr,K=>K (.lp st li fr)
 | .deep mp es rs,K=>K (.deep mp es rs)
def ig:List (Nat×Hp)->(List (Nat×Hp)->Prop)->Prop
 | [],K=>K []
 |(i,h)::r,K=>ig r fun r=>K ((i,h)::r)
structure IF{J:Type}(b:Bool)(A B:J->Prop)(j:J):Prop where
 t:b=true->A j
 f:b=false->B j
structure sU{J:Type}(n:Nat)(A B:J->Prop)(j:J):Prop where
 t:n=0->A j
 f:B j
structure wm(p K:Prop):Prop where
 p:p
 k:K
structure GET(rs:List (List SV))(i:Nat)(K:List SV->Prop):Prop where
 out:∃row,rs[i]?=some row/\K row
structure dI(g:Prop)(rs:List (List SV))(i:Nat)(K:List SV->Prop):Prop where
 out:∃row,(g->rs[i]?=some row)/\K row
structure bJ{J:Type}(r:Option (Nat×SV))(A:Nat->SV->J->Prop)(B:J->Prop)(j:J):Prop where
 s:∀i v,r=some (i,v)->A i v j
 n:r=none->B j
structure kF{J:Type}(r:Option (Nat×DC))(A:Nat->DC->J->Prop)(B:J->Prop)(j:J):Prop where
 s:∀i v,r=some (i,v)->A i v j
 n:r=none->B j
structure qc(why:String):Prop where
 out:False
structure Cx where
 T:kE
 N:Nat
 S:List (qP×Hp)
 ro:Option (Nat×Nat):=none
abbrev Fr:=List (Nat×SV)
abbrev w9:=List (Nat×Hp)
abbrev Gs:=List (Nat×List (Nat×Bool)×SV)
def V2(fr:Fr):Operand->Option SV
 | .tmp t=>wu t fr
 | .const v=>some (Yy v)
 | .global g=>some (.ptr (.qf g) 0 0 0)
 | .func f=>some (.fn (.func f) [] [])
def Yk(C:Cx)(O:w9):qP->Option Hp
 | .loc i=>match wu i O with
   |some h=>some h
   |none=>jd (.loc i) C.S
 | .qf g=>wu g C.T.jc
def Hg(T:kE)(t:TypeId)(f:Nat):Option (Nat×TypeId):=
 match T.sh t with
 | .struct fs=>nth fs f
 |_=>none
def kX{Y Z:Type}(f:Y->Option Z):List Y->Option (List Z)
 | []=>some []
 |x::xs=>match f x with
  |some y=>match kX f xs with|some ys=>some (y::ys)|none=>none
  |none=>none
def iq(cells:List SV)(place:Nat->Option (Nat×Nat)):List (Nat×SV)->Option (List SV)
 | []=>some cells
 |(i,v)::rest=>match place i with
  |some (off,size)=>match cellsOf v with
   |some vs=>match o6 vs size,VU off cells vs with
    |true,some cells=>iq cells place rest
    |_,_=>none
   |none=>none
  |none=>none
def dG(n:Nat)(cs:List SV):List SV:=match n with|0=>[]|n+1=>cs++dG n cs
def Hh(T:kE)(t:TypeId)(v:SV):Option Hp:=
 match T.sh t with
 | .array _ e=>match v with
   | .agg cs=>match T.sh t with
     | .array n _=>match JS (T.size e) n cs with|some rs=>some (.rows (T.size e) rs)|none=>none
     |_=>none
   |_=>none
 | .other=>none
 |_=>match cellsOf v with|some cs=>some (.box cs)|none=>none
def Hi(T:kE)(t:TypeId)(nx:Nat)(v:SV):wW:=
 match T.sh t,v with
 | .array n e, .arr es rs=>match Nat.beq (T.size e) es with
   |true=> .need (rs.length=n) (.new (.ptr (.loc nx) 0 es 0) (.rows es rs))
   |false=> .fail
 | .array _ e,v=>match Hh T t v with|some h=> .new (.ptr (.loc nx) 0 (T.size e) 0) h|none=> .fail
 |_,v=>match Hh T t v with|some h=> .new (.ptr (.loc nx) 0 0 0) h|none=> .fail
def Dt(tb te:TypeId)(nx:Nat):SV->wW
 | .agg [.val (.pointer none), .val (.slice none 0 0)]=> .new (.ptr (.loc nx) 0 0 0) (.jJ tb te [])
 |_=> .fail
def newR(T:kE)(t:TypeId)(nx:Nat)(v:SV):wW:=
 match T.jJ with
 |some (tb,te)=>match Nat.beq t tb with
  |true=>Dt tb te nx v
  |false=>Hi T t nx v
 |none=>Hi T t nx v
def fJ:SV->SV
 | .arr _ rs=> .agg rs.flatten
 |v=>v
def Hj(lk:Operand->Option SV)(x:Operand):Option SV:=match lk x with|some k=>some (fJ k)|none=>none
def Yg:Bool->SV->Option (List SV)
 |true, .agg cs=>some cs
 |true,_=>none
 |false,v=>some [v]
def Uo(ks:Bool×List CK)(a b:SV):Option Bool:=match Yg ks.1 a with
 |some xs=>match Yg ks.1 b with
  |some ys=>Zk ks.2 xs ys
  |none=>none
 |none=>none
def nJ(ks:Bool×List CK)(a b:SV):Bool:=match Uo ks a b with|some r=>r|none=>false
def Vz(ks:Bool×List CK)(a:SV):Bool:=(Uo ks a a).isSome
def U6(ks:Bool×List CK)(key:SV):Nat->List (List SV)->Option (Nat×SV)
 |_,[]=>none
 |i,r::rs=>match r with
  | [k,v]=>match nJ ks key k with
    |true=>some (i,v)
    |false=>U6 ks key (i+1) rs
  |_=>none
def V3(ks:Bool×List CK)(rs:List (List SV)):Prop:=∀r∈rs,∃k v,r=[k,v]/\Vz ks k=true
def oC(v:SV):List SV->List SV
 | [k,_]=>[k,v]
 |r=>r
def oD(ks:Bool×List CK)(key v:SV)(rs:List (List SV)):List (List SV):=match U6 ks key 0 rs with
 |some (i,_)=>rs.modify i (oC v)
 |none=>rs++ [[key,v]]
def nK(rs:List (List DC))(r c:Nat):Option (Nat×DC):=match rs[r]? with
 |some row=>match row[c]? with
  |some d=>some (r,d)
  |none=>none
 |none=>none
def findD(ks:Bool×List CK)(key:SV):Nat->List (List DC)->Option (Nat×DC)
 |_,[]=>none
 |i,r::rs=>match r with
  | [k,v]=>match nJ ks key (ZT k)with
    |true=>some (i,v)
    |false=>findD ks key (i+1) rs
  |_=>none
def fO(d:DC):List DC->List DC
 | [k,_]=>[k,d]
 |r=>r
def gu(ks:Bool×List CK)(key:SV)(d:DC)(rs:List (List DC)):List (List DC):=match findD ks key 0 rs with
 |some (i,_)=>rs.modify i (fO d)
 |none=>rs++ [[.v key,d]]
def iw(T:kE)(et:TypeId)(O:List (Nat×Hp))(i:Nat)(h:DC->Hp):SV->wW
 | .sl (.loc k) r es n lim=>match r,lim with
   |0,none=>match wu k O with
    |some (.rows es' rows)=>match Nat.beq es es' with
     |true=>match Nat.beq k i with
      |false=> .need (n<=rows.length) (.dZ i (h (.wZ es (rows.take n))) k (.wM []))
      |true=> .fail
     |false=> .fail
    |_=> .fu i (h (.v (.sl (.loc k) 0 es n none))) (.wM [])
   |r,lim=> .fu i (h (.v (.sl (.loc k) r es n lim))) (.wM [])
 | .val (.slice none 0 0)=>match T.sh et with
   | .slice e=> .fu i (h (.wZ (T.size e) [])) (.wM [])
   |_=> .fu i (h (.v (.val (.slice none 0 0)))) (.wM [])
 |v=> .fu i (h (.v v)) (.wM [])
def cc(T:kE)(e:TypeId):SV->DC
 | .val (.slice none 0 0)=>match T.sh e with
   | .slice e'=> .wZ (T.size e') []
   |_=> .v (.val (.slice none 0 0))
 |s=> .v s
def bytesRow(c:UInt8):List SV:=[.int .u8 (c.toNat:Int)]
def iy:List SV->UInt8
 | [.int _ n]=>UInt8.ofNat n.toNat
 |_=>0
def iz(O:w9):qP->Option Hp
 | .loc i=>wu i O
 | .qf _=>none
def Pb(s:List UInt8)(lo hi:Option (Option SV)):wW:=
 match lo with
 |none=>match hi with
  |none=> .val (.str s)
  |some (some (.int _ h))=> .need (0<=h/\h<=s.length) (.val (.str (s.take h.toNat)))
  |_=> .fail
 |some (some (.int _ l))=>match hi with
  |none=> .need (0<=l/\l<=s.length) (.val (.str (s.drop l.toNat)))
  |some (some (.int _ h))=> .need (0<=l/\l<=h/\h<=s.length) (.val (.str ((s.drop l.toNat).take (h.toNat-l.toNat))))
  |_=> .fail
 |_=> .fail
def reach(O:w9)(b:qP)(r len:Nat)(lim:Option Nat):Nat:=
 match lim with
 |some _=>len
 |none=>match iz O b with
  |some (.rows _ rs)=>max len (rs.length-r)
  |_=>len
def Pc(O:w9)(b:qP)(r es len:Nat)(lim:Option Nat)(lo hi mx:Option (Option SV)):wW:=
 match mx with
 |none=>match lo with
  |none=>match hi with
   |none=> .val (.sl b r es len lim)
   |some (some (.int _ h))=> .need (0<=h/\h<=(reach O b r len lim:Nat)) (.val (.sl b r es h.toNat lim))
   |_=> .fail
  |some (some (.int _ l))=>match hi with
   |none=> .need (0<=l/\l<=len) (.val (.sl b (r+l.toNat) es (len-l.toNat) lim))
   |some (some (.int _ h))=> .need (0<=l/\l<=h/\h<=(reach O b r len lim:Nat)) (.val (.sl b (r+l.toNat) es (h.toNat-l.toNat) lim))
   |_=> .fail
  |_=> .fail
 |some (some (.int _ m))=>match lo with
  |none=>match hi with
   |some (some (.int _ h))=> .need (0<=h/\h<=m/\m<=len) (.val (.sl b r es h.toNat (some (r+m.toNat))))
   |_=> .fail
  |_=> .fail
 |_=> .fail
def Pf(lo hi mx:Option (Option SV)):wW:=
 match mx with
 |some _=> .fail
 |none=>match lo with
  |some _=> .fail
  |none=>match hi with
   |none=> .val (.val (.slice none 0 0))
   |some (some (.int _ h))=> .need (h=0) (.val (.val (.slice none 0 0)))
   |_=> .fail
def lV(C:Cx)(O:w9)(es:Nat):SV->Option (List (List SV)×Nat)
 | .sl b r es' len _=>match Yk C O b with
   |some (.rows dH rs)=>match Nat.beq es es' with
    |true=>match Nat.beq es dH with
     |true=>some ((rs.drop r).take len,len)
     |false=>none
    |false=>none
   |_=>none
 | .val (.slice _ 0 0)=>some ([],0)
 | .str s=>match Nat.beq es 1 with
   |true=>some (s.map bytesRow,s.length)
   |false=>none
 |_=>none
def Pg(C:Cx)(O:w9)(nx:Nat)(e:TypeId)(xs:List (List SV))(m:Nat):qP->Nat->Nat->Nat->Nat->wW
 | .loc i,0,es,n,l=>match wu i O with
   |some (.deep false es' ds)=>match Nat.beq es (C.T.size e)with
    |true=>match Nat.beq es es' with
     |true=> .need (xs.length=m/\0<n/\0<m/\n<=ds.length/\n+m<=9223372036854775807/\min (2*(n+m)) ((n+m)+(n+m)/4+192)*C.T.bytes e<=281474976710656)
      (.ite (decide (l<n+m)) (.new (.sl (.loc nx) 0 es (n+m) none) (.rows es ((ZB ds).take n++xs))) (.take i (.rows es ((ZB ds).take n++xs)) (.rows es []) (.sl (.loc i) 0 es (n+m) (some l))))
     |false=> .fail
    |false=> .fail
   |_=> .fail
 |_,_,_,_,_=> .fail
def Hl(C:Cx)(O:w9)(nx:Nat)(t:TypeId)(s x:SV):wW:=
 match C.T.sh t with
 | .slice e=>match C.T.zero e with
   | []=> .fail
   |_::_=>match lV C O (C.T.size e) x with
    |none=> .fail
    |some (xs,m)=>match s with
     | .val (.slice none 0 0)=>
       .need (xs.length=m/\m<=9223372036854775807/\m*C.T.bytes e<=140737488355328) (.new (.sl (.loc nx) 0 (C.T.size e) m none) (.rows (C.T.size e) xs))
     | .sl (.loc i) 0 es n none=>
       match wu i O with
       |some (.rows es' rs)=>match Nat.beq es (C.T.size e)with
        |true=>match Nat.beq es es' with
         |true=> .need (xs.length=m/\n<=rs.length/\n+m<=9223372036854775807/\min (2*(n+m)) ((n+m)+(n+m)/4+192)*C.T.bytes e<=281474976710656) (.dG i (.rows es (rs.take n++xs)) (.sl (.loc nx) 0 es (n+m) none))
         |false=> .fail
        |false=> .fail
       |some (.deep false es' rs)=>match Nat.beq es (C.T.size e)with
        |true=>match Nat.beq es es' with
         |true=> .need (xs.length=m/\n<=rs.length/\n+m<=9223372036854775807/\min (2*(n+m)) ((n+m)+(n+m)/4+192)*C.T.bytes e<=281474976710656) (.dG i (.deep false es (rs.take n++xs.map fun row=>row.map (cc C.T e))) (.sl (.loc nx) 0 es (n+m) none))
         |false=> .fail
        |false=> .fail
       |_=> .fail
     | .sl b r es n (some l)=>
       match lV C O (C.T.size e) (.sl b r es n (some l))with
       |some (ys,_)=> .need (l=r+n/\0<m/\ys.length=n/\xs.length=m/\n+m<=9223372036854775807/\min (2*(n+m)) ((n+m)+(n+m)/4+192)*C.T.bytes e<=281474976710656) (.new (.sl (.loc nx) 0 (C.T.size e) (n+m) none) (.rows (C.T.size e) (ys++xs)))
       |none=>Pg C O nx e xs m b r es n l
     |_=> .fail
 |_=> .fail
def Ph(C:Cx)(nx:Nat)(t:TypeId)(x:SV):wW:=
 match C.T.sh t with
 | .slice e=>match C.T.zero e with
   | []=> .fail
   |c::cs=>match x with
    | .int _ n=> .need (0<=n/\n<=9223372036854775807/\n.toNat*C.T.bytes e<=140737488355328) (.new (.sl (.loc nx) 0 (C.T.size e) n.toNat none) (.rows (C.T.size e) (List.replicate n.toNat (c::cs))))
    |_=> .fail
 |_=> .fail
def Du(sh:Sh)(y:Operand)(u:SV)(w:Value):Option Bool:=
 match sh,y,w,u with
 | .iface, .const _, .nilIface, .dX _ _=>some false
 | .iface, .const _, .nilIface, .val .nilIface=>some true
 | .ptr _,_, .pointer none, .ptr _ _ _ _=>some false
 | .ptr _,_, .pointer none, .val (.pointer none)=>some true
 | .func,_, .nilFunc, .fn _ _ _=>some false
 | .func,_, .nilFunc, .val .nilFunc=>some true
 |_,_,_,_=>none
section
variable (C:Cx)(lk:Operand->Option SV)(O:w9)(nx:Nat)
def Ho(x:Operand):wW:=match lk x with|some v=> .val v|none=> .fail
def Pj(c a b:Operand):wW:=
 match lk c with
 |some (.bool c)=>match lk a,lk b with
  |some (.bool a),some (.bool b)=> .val (.bool (bif c then a else b))
  |some (.bool a),some (.wM [])=> .need (c=true) (.val (.bool a))
  |some (.wM []),some (.bool b)=> .need (c=false) (.val (.bool b))
  |_,_=> .fail
 |_=> .fail
def Pk(e:TypeId):wW:=
 match C.T.zero e with
 | []=> .fail
 |c::cs=>match YH C.T e (c::cs)with|some v=>newR C.T e nx v|none=> .fail
def KR(e:TypeId)(x:Operand):wW:=match lk x with|some v=>newR C.T e nx v|none=> .fail
def Hq(ps:Array (Nat×Operand)):Option (List (Nat×SV)):=
 kX (fun(p:Nat×Operand)=>match lk p.2 with|some v=>some (p.1,v)|none=>none) ps.toList
def Dv(T:kE)(fs:List (Nat×TypeId))(i:Nat):Option (Nat×Nat):=match nth fs i with|some (off,u)=>some (off,T.size u)|none=>none
def Wz(T:kE)(e:TypeId)(i:Nat):Option (Nat×Nat):=some (i*T.size e,T.size e)
def Zip(t:TypeId)(ps:Array (Nat×Operand)):wW:=
 match Hq lk ps with
 |none=> .fail
 |some ps=>match C.T.zero t with
  | []=> .fail
  |c::cs=>match C.T.sh t with
   | .struct fs=>match iq (c::cs) (Dv C.T fs) ps with
     |some cs=> .val (.agg cs)
     |none=> .fail
   | .array _ e=>match iq (c::cs) (Wz C.T e) ps with
     |some cs=> .val (.agg cs)
     |none=> .fail
   |_=> .fail
def Pm(t:TypeId)(len:Nat)(ps:Array (Nat×Operand)):wW:=
 match Hq lk ps with
 |none=> .fail
 |some ps=>match C.T.sh t with
  | .slice e=>match C.T.zero e with
    | []=> .fail
    |c::cs=>match Nat.ble (len*C.T.size e) 16777216 with
     |false=> .fail
     |true=>match iq (dG len (c::cs)) (Wz C.T e) ps with
      |none=> .fail
      |some cs=>match JS (C.T.size e) len cs with
       |some rs=> .new (.sl (.loc nx) 0 (C.T.size e) len none) (.rows (C.T.size e) rs)
       |none=> .fail
  |_=> .fail
def Hr(i es:Nat)(rs:List (List DC))(r c:Nat)(t:TypeId):DC->wW
 | .v sv=>match YH C.T t [sv]with|some v=> .val v|none=> .fail
 | .wZ es' rows=>match C.T.sh t with
   | .slice _=> .take i (.deep false es (rs.modify r fun row=>row.set c (.v (.sl (.loc nx) 0 es' rows.length none)))) (.rows es' rows) (.sl (.loc nx) 0 es' rows.length none)
   |_=> .fail
def Pn(t:TypeId)(x:Operand):wW:=match lk x with
 |some p=>match p with
  | .ptr (.loc i) r es c=>match wu i O with
    |some (.deep false es' rs)=>match Nat.beq es es',Nat.beq (C.T.size t) 1 with
     |true,true=> .findD (nK rs r c) (fun _ d=>Hr C nx i es rs r c t d) .fail
     |_,_=> .fail
    |_=>K0 C.T (Yk C O) t p
  |_=>K0 C.T (Yk C O) t p
 |none=> .fail
def jo(T:kE)(t:TypeId):Bool:=match T.sh t with| .other=>false|_=>true
def Po(t:TypeId)(x y:Operand):wW:=
 match jo C.T t with
 |false=> .fail
 |true=>match Nat.beq (C.T.size t) 0 with
  |true=> .fail
  |false=>match lk x with
   |some p=>match lk y with
    |some v=>match p with
     | .ptr (.loc i) r es c=>match wu i O with
       |some (.deep false es' rs)=>match Nat.beq es es',Nat.beq (C.T.size t) 1 with
        |true,true=>match cellsOf v with
         |some [s]=> .findD (nK rs r c) (fun _ _=>iw C.T t O i (fun d=> .deep false es (rs.modify r fun row=>row.set c d)) s) .fail
         |_=> .fail
        |_,_=> .fail
       |_=>He C.T (fun i=>wu i O) t p v
     |_=>He C.T (fun i=>wu i O) t p v
    |none=> .fail
   |none=> .fail
def Pp(x:Operand):wW:=
 match lk x with
 |some (.ptr b r es c)=> .val (.ptr b r es c)
 |_=> .fail
def K1(ks:List CK)(xs ys:List SV):Bool:=match Zk ks xs ys with|some r=>r|none=>false
def KS(ks:List CK)(op:BinOp)(xs ys:List SV):wW:=
 match op with
 | .eql=> .need ((Zk ks xs ys).isSome=true) (.val (.bool (K1 ks xs ys)))
 | .neq=> .need ((Zk ks xs ys).isSome=true) (.val (.bool (!(K1 ks xs ys))))
 |_=> .fail
def KU(op:BinOp)(t:TypeId)(x y:Operand):wW:=
 match lk x with
 |some (.int k a)=>match lk y with
  |some (.int k' b)=>Dr op k k' a b
  |_=> .fail
 |some (.str a)=>match lk y with
  |some (.str b)=>Ds op a b
  |_=> .fail
 |some (.bool a)=>match lk y with
  |some (.bool b)=>match C.T.sh t with
   | .bool=>match op with
     | .eql=> .val (.bool (a==b))
     | .neq=> .val (.bool (a !=b))
     |_=> .fail
   |_=> .fail
  |_=> .fail
 |some (.agg xs)=>match lk y with
  |some (.agg ys)=>match C.T.flat t with
   |some ks=>match Zk ks xs ys with
    |some r=>match op with
     | .eql=> .val (.bool r)
     | .neq=> .val (.bool (!r))
     |_=> .fail
    |none=> .fail
   |none=> .fail
  |some (.arr _ rs)=>match C.T.flat t with
   |some ks=>KS ks op xs rs.flatten
   |none=> .fail
  |_=> .fail
 |some (.arr _ rs)=>match lk y with
  |some (.agg ys)=>match C.T.flat t with
   |some ks=>KS ks op rs.flatten ys
   |none=> .fail
  |some (.arr _ qs)=>match C.T.flat t with
   |some ks=>KS ks op rs.flatten qs.flatten
   |none=> .fail
  |_=> .fail
 |some (.sl b r es len lim)=>match lk y with
  |some (.val (.slice none 0 0))=>match C.T.sh t with
   | .slice _=>match op with
     | .eql=> .val (.nb len)
     | .neq=> .need (0<len) (.val (.bool true))
     |_=> .fail
   |_=> .fail
  |_=> .fail
 |some (.val (.slice none 0 0))=>match lk y with
  |some (.val (.slice none 0 0))=>match C.T.sh t with
   | .slice _=>match op with
     | .eql=> .val (.bool true)
     | .neq=> .val (.bool false)
     |_=> .fail
   |_=> .fail
  |_=> .fail
 |some u=>match lk y with
  |some (.val w)=>match Du (C.T.sh t) y u w with
   |some r=>match op with
    | .eql=> .val (.bool r)
    | .neq=> .val (.bool (!r))
    |_=> .fail
   |none=> .fail
  |_=> .fail
 |none=> .fail
def Pq(op:UnOp)(x:Operand):wW:=
 match op with
 | .not=>match lk x with
   |some (.bool b)=> .val (.bool (!b))
   |_=> .fail
 | .neg=>match lk x with
   |some (.int k n)=> .val (.int k (k.wrap (0-n)))
   |_=> .fail
 | .xor=>match lk x with
   |some (.int k n)=> .val (.int k (ox k (bif k.signed then-1 else k.max) n))
   |_=> .fail
 |_=> .fail
def KV(T:kE)(t:TypeId):Option TypeId:=
 match T.sh t with
 | .slice e=>match T.sh e with
   | .int .u8=>some e
   |_=>none
 |_=>none
def Pt(s d:TypeId)(x:Operand):wW:=
 match jo C.T s with
 |false=> .fail
 |true=>match lk x with
  |some (.int _ n)=>match C.T.sh d with
   | .int k=> .val (.int k (k.wrap n))
   | .str=> .val (.str (Utf8.encode n).data.toList)
   |_=> .fail
  |some (.str s')=>match C.T.sh d with
   | .str=> .val (.str s')
   |_=>match KV C.T d with
    |some e=>match Nat.beq (C.T.size e) 1 with
     |true=>match C.T.sh s with
      | .str=> .need (s'.length<=9223372036854775807) (.new (.sl (.loc nx) 0 1 s'.length none) (.rows 1 (s'.map bytesRow)))
      |_=> .fail
     |false=> .fail
    |none=> .fail
  |some (.sl b r es len lim)=>match C.T.sh d with
   | .str=>match KV C.T s with
     |some _=>match lV C O 1 (.sl b r es len lim)with
      |some (xs,m)=> .need (xs.length=m/\∃l:List UInt8,xs=l.map bytesRow) (.val (.str (xs.map iy)))
      |none=> .fail
     |none=> .fail
   |_=> .fail
  |some (.val (.slice none 0 0))=>match C.T.sh d with
   | .str=>match KV C.T s with
     |some _=> .val (.str [])
     |none=> .fail
   |_=> .fail
  |_=> .fail
def Pu(t:TypeId)(x:Operand):wW:=
 match C.T.sh t with
 | .iface=> .fail
 | .other=> .fail
 |_=>match lk x with
  |some v=> .val (.dX t v)
  |none=> .fail
def Pv(f:Fn)(a b:Array Operand):wW:=
 match kX lk a.toList with
 |some a=>match kX lk b.toList with
  |some b=> .val (.fn f a b)
  |none=> .fail
 |none=> .fail
def Pw(t:TypeId)(l c:Operand):wW:=
 match C.T.sh t with
 | .slice e=>match C.T.zero e with
   | []=> .fail
   |z::zs=>match lk l with
    |some (.int _ l)=>match lk c with
     |some (.int _ c)=>
      .need (0<=l/\l<=c/\c<=9223372036854775807/\C.T.bytes e*c<=281474976710656)
       (.new (.sl (.loc nx) 0 (C.T.size e) l.toNat none) (.rows (C.T.size e) (List.replicate c.toNat (z::zs))))
     |_=> .fail
    |_=> .fail
 |_=> .fail
def Px(t:TypeId)(x:Operand)(lo hi mx:Option Operand):wW:=
 match lk x with
 |some (.str s)=>match C.T.sh t with
  | .str=>match mx with
    |none=>Pb s (lo.map lk) (hi.map lk)
    |some _=> .fail
  |_=> .fail
 |some (.sl b r es len lim)=>match C.T.sh t with
  | .slice e=>match Nat.beq es (C.T.size e)with
    |true=>match jo C.T e with
     |true=>Pc O b r es len lim (lo.map lk) (hi.map lk) (mx.map lk)
     |false=> .fail
    |false=> .fail
  |_=> .fail
 |some (.val (.slice none 0 0))=>match C.T.sh t with
  | .slice e=>match jo C.T e with
    |true=>Pf (lo.map lk) (hi.map lk) (mx.map lk)
    |false=> .fail
  |_=> .fail
 |_=> .fail
def Py(s:TypeId)(x:Operand)(f:Nat):wW:=
 match lk x with
 |some (.ptr b r es c)=>match Hg C.T s f with
  |some (off,u)=>match Nat.beq (C.T.size u) 0 with
   |true=> .fail
   |false=> .val (.ptr b r es (c+off))
  |none=> .fail
 |_=> .fail
def Pz(t:TypeId)(x:Operand)(f:Nat):wW:=
 match lk x with
 |some (.agg cs)=>match Hg C.T t f with
  |some (off,u)=>oy C.T u off cs
  |none=> .fail
 |_=> .fail
def PA(t:TypeId)(x i:Operand):wW:=
 match lk i with
 |some (.int _ i)=>match C.T.sh t with
  | .array n e=>match lk x with
    |some (.ptr b r es c)=>match Nat.beq es (C.T.size e)with
     |true=> .need (r=0/\c=0/\0<=i/\i<n) (.val (.ptr b i.toNat es 0))
     |false=>match c with
      |0=> .need (r=0/\(0:Nat)=0/\0<=i/\i<n) (.val (.ptr b i.toNat (C.T.size e) 0))
      |c'+1=> .need (0<=i/\i<n) (.val (.ptr b r es (c'+1+i.toNat*C.T.size e)))
    |_=> .fail
  | .slice e=>match lk x with
    |some (.sl b r es len _)=>match Nat.beq es (C.T.size e),jo C.T e with
     |true,true=> .need (0<=i/\i<len) (.val (.ptr b (r+i.toNat) es 0))
     |_,_=> .fail
    |_=> .fail
  |_=> .fail
 |_=> .fail
def PB(t:TypeId)(x i:Operand):wW:=
 match lk i with
 |some (.int _ i)=>match C.T.sh t with
  | .str=>match lk x with
    |some (.str s)=> .need (0<=i/\i<s.length) (.val (.int .u8 (Z1 s i)))
    |_=> .fail
  | .array n e=>match lk x with
    |some (.agg cs)=>match JS (C.T.size e) n cs with
     |some rs=> .need (0<=i/\i<n) (.get rs i.toNat fun row=>oy C.T e 0 row)
     |none=> .fail
    |some (.arr es rs)=>match Nat.beq es (C.T.size e)with
     |true=> .need (0<=i/\i<n/\rs.length=n) (.get rs i.toNat fun row=>oy C.T e 0 row)
     |false=> .fail
    |_=> .fail
  |_=> .fail
 |_=> .fail
def PC(t:TypeId)(x:Operand):wW:=
 match C.T.sh t with
 | .str=>match lk x with
   |some (.str s)=> .new (.ptr (.loc nx) 0 0 0) (.qM s 0)
   |_=> .fail
 |_=> .fail
def PD(x:Operand)(isStr:Bool):wW:=
 match isStr with
 |true=>match lk x with
  |some (.ptr (.loc i) r es c)=>match wu i O with
   |some (.qM s pos)=>match Nat.beq (r*es+c) 0 with
    |true=> .ite (decide (pos<s.length))
     (.fu i (.qM s (pos+(Utf8.decode ⟨s.toArray⟩ pos).2)) (.wM [.bool true, .int .i64 (pos:Int), .int .i32 ((Utf8.decode ⟨s.toArray⟩ pos).1:Int)]))
     (.val (.wM [.bool false]))
    |false=> .fail
   |_=> .fail
  |_=> .fail
 |false=> .fail
def PE(x:Operand)(i:Nat):wW:=
 match lk x with
 |some (.wM vs)=>match nth vs i with
  |some v=> .val v
  |none=> .fail
 |_=> .fail
def Hs(T:kE)(t:TypeId):wW:=
 match T.zero t with
 | []=> .fail
 |c::cs=>match YH T t (c::cs)with
  |some z=> .val (.wM [z, .bool false])
  |none=> .fail
def PF(x:Operand)(t:TypeId)(ok:Bool):wW:=
 match C.T.sh t with
 | .iface=> .fail
 | .other=> .fail
 |_=>match lk x with
  |some (.dX u v)=>match Nat.beq u t with
   |true=>match ok with
    |true=> .val (.wM [v, .bool true])
    |false=> .val v
   |false=>match ok with
    |true=>Hs C.T t
    |false=> .fail
  |some (.val .nilIface)=>match ok with
   |true=>Hs C.T t
   |false=> .fail
  |_=> .fail
def sV(T:kE)(t:TypeId)(f:SV->wW):wW:=
 match T.zero t with
 | []=> .fail
 |c::cs=>match YH T t (c::cs)with
  |some z=>f z
  |none=> .fail
def sW(ok:Bool)(v:SV)(b:Bool):SV:=match ok with|true=> .wM [v, .bool b]|false=>v
def PG(t:TypeId)(r:Option Operand):wW:=
 match r with
 |none=> .new (.mp (.loc nx)) (.mp [])
 |some x=>match C.T.sh t with
  | .map _ _=>match lk x with
    |some (.int _ _)=> .new (.mp (.loc nx)) (.mp [])
    |_=> .fail
  |_=> .fail
def PI(ok:Bool)(i es:Nat)(rs:List (List DC))(j:Nat):DC->wW
 | .v s=> .val (sW ok s true)
 | .wZ es' rows=> .take i (.deep true es (rs.modify j (fO (.v (.sl (.loc nx) 0 es' rows.length none))))) (.rows es' rows) (sW ok (.sl (.loc nx) 0 es' rows.length none) true)
def Dw(ks:Bool×List CK)(et:TypeId)(key:SV)(ok:Bool):qP->wW
 | .loc i=>match wu i O with
   |some (.deep true es rs)=> .need (Vz ks key=true/\V3 ks (ZB rs)) (.findD (findD ks key 0 rs) (fun j d=>PI nx ok i es rs j d) (sV C.T et fun z=> .val (sW ok z false)))
   |_=> .fail
 | .qf _=> .fail
def PJ(t:TypeId)(x i:Operand)(ok:Bool):wW:=
 match C.T.sh t with
 | .map kt et=>match C.T.key kt with
   |some ks=>match Hj lk i with
    |some key=>match lk x with
     |some (.mp b)=>match Yk C O b with
      |some (.mp rs)=> .need (Vz ks key=true/\V3 ks rs) (.find (U6 ks key 0 rs) (fun _ v=> .val (sW ok v true)) (sV C.T et fun z=> .val (sW ok z false)))
      |_=>Dw C O nx ks et key ok b
     |some (.val (.map none))=> .need (Vz ks key=true) (sV C.T et fun z=> .val (sW ok z false))
     |_=> .fail
    |none=> .fail
   |none=> .fail
 |_=> .fail
def Dx(t:TypeId)(m k v:Operand):wW:=
 match C.T.sh t with
 | .map kt et=>match C.T.key kt with
   |some ks=>match Hj lk k with
    |some key=>match lk v with
     |some v=>match lk m with
      |some (.mp (.loc i))=>match wu i O with
       |some (.mp rs)=> .need (Vz ks key=true/\V3 ks rs) (.fu i (.mp (oD ks key v rs)) (.wM []))
       |some (.deep true es rs)=> .need (Vz ks key=true/\V3 ks (ZB rs)) (iw C.T et O i (fun d=> .deep true es (gu ks key d rs)) v)
       |_=> .fail
      |_=> .fail
     |none=> .fail
    |none=> .fail
   |none=> .fail
 |_=> .fail
def Dy(i es:Nat)(rs:List (List DC))(j:Nat):DC->wW
 | .v s=> .val (.wM [s, .int .i64 (j:Int)])
 | .wZ es' rows=> .take i (.deep true es (rs.modify j (fO (.v (.sl (.loc nx) 0 es' rows.length none))))) (.rows es' rows) (.wM [.sl (.loc nx) 0 es' rows.length none, .int .i64 (j:Int)])
def PK(t:TypeId)(m k:Operand):wW:=
 match C.T.sh t with
 | .map kt et=>match C.T.key kt with
   |some ks=>match lk k with
    |some key=>match lk m with
     |some (.mp (.loc i))=>match wu i O with
      |some (.mp rs)=> .need (Vz ks key=true/\V3 ks rs) (.find (U6 ks key 0 rs) (fun j v=> .val (.wM [v, .int .i64 (j:Int)]))
        (sV C.T et fun z=> .fu i (.mp (rs++ [[key,z]])) (.wM [z, .int .i64 (rs.length:Int)])))
      |some (.deep true es rs)=> .need (Vz ks key=true/\V3 ks (ZB rs)) (.findD (findD ks key 0 rs) (fun j d=>Dy nx i es rs j d)
        (sV C.T et fun z=> .fu i (.deep true es (rs++ [[.v key, .v z]])) (.wM [z, .int .i64 (rs.length:Int)])))
      |_=> .fail
     |_=> .fail
    |none=> .fail
   |none=> .fail
 |_=> .fail
def PL(t:TypeId)(m s v:Operand):wW:=
 match lk s with
 |some (.int _ n)=>match lk v with
  |some v=>match lk m with
   |some (.mp (.loc i))=>match wu i O with
    |some (.mp rs)=> .need (0<=n/\n< (rs.length:Int)) (.fu i (.mp (rs.modify n.toNat (oC v))) (.wM []))
    |some (.deep true es rs)=>match C.T.sh t with
     | .map _ et=> .need (0<=n/\n< (rs.length:Int)) (iw C.T et O i (fun d=> .deep true es (rs.modify n.toNat (fO d))) v)
     |_=> .fail
    |_=> .fail
   |_=> .fail
  |none=> .fail
 |_=> .fail
def KW(args:List Operand)(ts:List TypeId):wW:=
 match args with
 | [x]=>match ts with
   | [t]=>match lk x with
     |some (.str s)=>match C.T.sh t with| .str=> .val (.int .i64 (s.length:Int))|_=> .fail
     |some (.sl _ _ _ len _)=>match C.T.sh t with| .slice _=> .val (.int .i64 (len:Int))|_=> .fail
     |some (.val (.slice _ n _))=>match C.T.sh t with| .slice _=> .val (.int .i64 (n:Int))|_=> .fail
     |some (.mp b)=>match C.T.sh t with
      | .map _ _=>match Yk C O b with
        |some (.mp rs)=> .val (.int .i64 (rs.length:Int))
        |_=> .fail
      |_=> .fail
     |_=> .fail
   |_=> .fail
 |_=> .fail
def KX(args:List Operand)(ts:List TypeId):wW:=
 match args with
 | [x]=>match ts with
   | [t]=>match lk x with
     |some (.val (.slice none 0 0))=>match C.T.sh t with| .slice _=> .val (.int .i64 0)|_=> .fail
     |_=> .fail
   |_=> .fail
 |_=> .fail
def PN(args:List Operand)(ts:List TypeId):wW:=
 match args with
 | [s,x]=>match ts with
   | [t,u]=>match lk s with
     |some s=>match lk x with
      |some x=>match C.T.sh u with
       | .slice _=>Hl C O nx t s x
       | .str=>Hl C O nx t s x
       | .int _=>match s with
         | .val (.slice none 0 0)=>Ph C nx t x
         |_=> .fail
       |_=> .fail
      |none=> .fail
     |none=> .fail
   |_=> .fail
 |_=> .fail
def KY(args:List Operand):wW:=
 match args with
 | [x,y]=>match lk x with
   |some (.int k a)=>match lk y with
    |some (.int _ b)=> .val (.int k (if b<a then b else a))
    |_=> .fail
   |_=> .fail
 |_=> .fail
def KZ(args:List Operand):wW:=
 match args with
 | [x,y]=>match lk x with
   |some (.int k a)=>match lk y with
    |some (.int _ b)=> .val (.int k (if a<b then b else a))
    |_=> .fail
   |_=> .fail
 |_=> .fail
def PO(args:List Operand)(ts:List TypeId):wW:=
 match args with
 | [d,x]=>match ts with
   | [t,_]=>match C.T.sh t with
     | .slice e=>match jo C.T e with
       |false=> .fail
       |true=>match lk d with
        |some (.sl (.loc i) r es n _)=>match lk x with
         |none=> .fail
         |some x=>match lV C O (C.T.size e) x with
          |none=> .fail
          |some (xs,m)=>match wu i O with
           |some (.rows es' rs)=>match Nat.beq es (C.T.size e)with
            |true=>match Nat.beq es es' with
             |true=> .need (xs.length=m/\m<=n/\r+n<=rs.length) (.fu i (.rows es (rs.take r++xs++rs.drop (r+m))) (.int .i64 (m:Int)))
             |false=> .fail
            |false=> .fail
           |_=> .fail
        |_=> .fail
     |_=> .fail
   |_=> .fail
 |_=> .fail
def PR(args:List Operand)(ts:List TypeId):wW:=
 match args with
 | [d]=>match ts with
   | [t]=>match C.T.sh t with
     | .slice e=>match C.T.zero e with
       | []=> .fail
       |z::zs=>match lk d with
        |some (.sl (.loc i) r es n _)=>match wu i O with
         |some (.rows es' rs)=>match Nat.beq es (C.T.size e)with
          |true=>match Nat.beq es es' with
           |true=> .need (r+n<=rs.length) (.fu i (.rows es (rs.take r++List.replicate n (z::zs)++rs.drop (r+n))) (.wM []))
           |false=> .fail
          |false=> .fail
         |_=> .fail
        |_=> .fail
     |_=> .fail
   |_=> .fail
 |_=> .fail
def VC(b:Builtin)(args:List Operand)(ts:List TypeId):wW:=
 match b with
 | .len=>KW C lk O args ts
 | .append=>PN C lk O nx args ts
 | .cap=>KX C lk args ts
 | .min=>KY lk args
 | .max=>KZ lk args
 | .copy=>PO C lk O args ts
 | .clear=>PR C lk O args ts
 |_=> .fail
def qH:Op->wW
 | .move x=>Ho lk x
 | .assign x=>Ho lk x
 | .pick c a b=>Pj lk c a b
 | .alloc e=>Pk C nx e
 | .box e x=>KR C lk nx e x
 | .build t ps=>Zip C lk t ps
 | .buildSlice t len ps=>Pm C lk nx t len ps
 | .load t x=>Pn C lk O nx t x
 | .store t x y=>Po C lk O t x y
 | .nilCheck x=>Pp lk x
 | .binOp op t x y _=>KU C lk op t x y
 | .unOp op _ x=>Pq lk op x
 | .convert s d x=>Pt C lk O nx s d x
 | .makeInterface t x=>Pu C lk t x
 | .makeFunc f a b=>Pv lk f a b
 | .makeSlice t l c=>Pw C lk nx t l c
 | .slice t x lo hi mx=>Px C lk O t x lo hi mx
 | .fieldAddr s x f=>Py C lk s x f
 | .field t x f=>Pz C lk t x f
 | .indexAddr t x i=>PA C lk t x i
 | .index t x i=>PB C lk t x i
 | .makeMap t r=>PG C lk nx t r
 | .lookup t x i ok=>PJ C lk O nx t x i ok
 | .mapUpdate t m k v=>Dx C lk O t m k v
 | .insert t m k v=>Dx C lk O t m k v
 | .mapEntry t m k=>PK C lk O nx t m k
 | .entryStore t m s v=>PL C lk O t m s v
 | .range t x=>PC C lk nx t x
 | .next x isStr=>PD lk O x isStr
 | .extract x i=>PE lk x i
 | .typeAssert x _ t ok=>PF C lk x t ok
 | .call c=>match c.callee with
   | .builtin b=>VC C lk O nx b c.args.toList c.argTypes.toList
   |_=> .fail
 |_=> .fail
end
structure kM where
 g:Nat
 base:Nat
 cap:Nat
abbrev Env:=List (Option kM)
def Env.get(Y:Env):qP->Option (Option kM)
 | .qf g=>some (some ⟨g,0,0⟩)
 | .loc i=>Y[i]?
mutual
def Den(Y:Env):SV->Value->Prop
 | .bool b,v=>v= .bool b
 | .int k n,v=>v= .int k n
 | .str s,v=>v= .string ⟨s.toArray⟩
 | .ptr b r es c,v=> ∃e,Y.get b=some (some e)/\v= .pointer (some ⟨e.g,e.base+(r*es+c),none⟩)
 | .sl b r es len lim,v=>
   (Y.get b=some none/\v= .slice none 0 0/\len=0)\/
   (∃e o,Y.get b=some (some e)/\v= .slice (some ⟨e.g,o,none⟩) len (lim.getD e.cap-r)/\r+len<=lim.getD e.cap/\lim.getD e.cap<=e.cap/\(r<lim.getD e.cap\/r=0->o=e.base+r*es))
 | .val u,v=>v=u/\u.oneCell'=true
 | .agg cs,v=> ∃vs,v= .agg ⟨vs⟩/\w6 Y cs vs/\∀u∈vs,u.oneCell'=true
 | .arr es rs,v=> ∃vs,v= .agg ⟨vs⟩/\wI Y es rs vs/\∀u∈vs,u.oneCell'=true
 | .wM ts,v=> ∃vs,v= .tuple ⟨vs⟩/\w6 Y ts vs
 | .dX t x,v=> ∃u,v= .iface t u/\Den Y x u
 | .fn f a b,v=> ∃us vs,v= .func f ⟨us⟩ ⟨vs⟩/\w6 Y a us/\w6 Y b vs
 | .mp b,v=> ∃e,Y.get b=some (some e)/\v= .map (some e.g)
 | .yf b,v=> ∃e,Y.get b=some (some e)/\v= .func (.yield e.g) #[] #[]
 | .eE _,_=>True
 | .nb n,v=> ∃b,v= .bool b/\(b=true->n=0)
 | .any,_=>True
def w6(Y:Env):List SV->List Value->Prop
 | [],vs=>vs=[]
 |c::cs,vs=> ∃u us,vs=u::us/\Den Y c u/\w6 Y cs us
def wI(Y:Env)(es:Nat):List (List SV)->List Value->Prop
 | [],vs=>vs=[]
 |r::rs,vs=> ∃us ws,vs=us++ws/\us.length=es/\w6 Y r us/\wI Y es rs ws
end
def wK(Y:Env)(arr:Array Value)(o:Nat)(row:List SV):Prop:=
 ∀j sv,row[j]?=some sv->∃v,arr[o+j]?=some v/\v.oneCell'=true/\Den Y sv v
def kY(Y:Env)(tmps:Array Value)(fr:Fr):Prop:=∀t sv,wu t fr=some sv->Den Y sv (tmps.getD t undef)
def pT.state:pT->LoopState
 | .ready=> .ready
 | .busy=> .busy
 | .left _=> .done
def ZgL:Option Nat->Code
 |none=> .ret
 |some id=> .exit id
def pT.jump:pT->Option Code
 | .left j=>some (ZgL j)
 |_=>none
def gG(Y:Env)(r:Loop)(st:pT)(li:rI)(fr:Fr):Prop:=
 r.state=st.state/\r.pending=st.jump/\r.params.toList=li.ps/\r.assign=li.cM/\r.body=li.body/\r.tmps.size=li.N/\kY Y r.tmps fr
def VD(n:Nat)(fz:Nat×Nat):Prop:=∀o,o<n->¬(fz.1<=o/\o<fz.2)
def qm(Y:Env)(w:World)(own:Bool)(b:qP)(es:Nat)(rs:List (List SV)):Prop:=
 (Y.get b=some none/\rs=[])\/
 (∃e arr T fz,Y.get b=some (some e)/\w.heap[e.g]?=some (.cells arr T fz)/\(own=true->VD arr.size fz/\arr.size=e.cap*es/\rs.length<=e.cap/\e.base=0)/\
   ∀i row,rs[i]?=some row->row.length=es/\wK Y arr (e.base+i*es) row)
def eF(Y:Env)(w:World)(b:qP)(rs:List (List SV)):Prop:=
 ∃e es,Y.get b=some (some e)/\e.base=0/\w.heap[e.g]?=some (.map es es.size)/\es.size=rs.length/\∀i row,rs[i]?=some row->∃en:MapEntry,es[i]?=some en/\en.born=i/\w6 Y row [en.key,en.val]
def ZJ(o:Obj)(es i j:Nat):Option Value:=match o with
 | .cells arr _ _=>arr[i*es+j]?
 | .map qi _=>(qi[i]?).map fun e=>match j with|0=>e.key|_=>e.val
 |_=>none
def Yl(rs:List (List DC))(i j:Nat):Option (Nat×List (List SV)):=match rs[i]? with
 |some row=>match row[j]? with
  |some (.wZ es rows)=>some (es,rows)
  |_=>none
 |none=>none
def qz(Y:Env)(w:World)(v:Value)(es:Nat)(rows:List (List SV)):Prop:=
 (v= .slice none 0 0/\rows=[])\/
 (∃g cap arr T fz,v= .slice (some ⟨g,0,none⟩) rows.length cap/\w.heap[g]?=some (.cells arr T fz)/\VD arr.size fz/\arr.size=cap*es/\rows.length<=cap/\
   ∀i row,rows[i]?=some row->row.length=es/\wK Y arr (0+i*es) row)
structure kG(Y:Env)(w:World)(g:Nat)(o:Obj)(es:Nat)(rs:List (List DC)):Prop where
 sat:∀i j es' rows,Yl rs i j=some (es',rows)->∃v,ZJ o es i j=some v/\qz Y w v es' rows/\v.ownBlock≠some g
 ne:∀i j i' j' x x' v v' k,Yl rs i j=some x->Yl rs i' j'=some x'->ZJ o es i j=some v->ZJ o es i' j'=some v'->v.ownBlock=some k->v'.ownBlock=some k->i=i'/\j=j'
def qt(Y:Env)(w:World)(b:qP)(es:Nat)(rs:List (List DC)):Prop:=∀e,Y.get b=some (some e)->e.base=0/\∀o,w.heap[e.g]?=some o->kG Y w e.g o es rs
def uZ(Y:Env)(w:World)(own:Bool)(b:qP):Hp->Prop
 | .box row=> ∃e arr T fz,Y.get b=some (some e)/\w.heap[e.g]?=some (.cells arr T fz)/\(own=true->VD arr.size fz)/\wK Y arr e.base row
 | .rows es rs=>
   (Y.get b=some none/\rs=[])\/
   (∃e arr T fz,Y.get b=some (some e)/\w.heap[e.g]?=some (.cells arr T fz)/\(own=true->VD arr.size fz/\arr.size=e.cap*es/\rs.length<=e.cap/\e.base=0)/\
     ∀i row,rs[i]?=some row->row.length=es/\wK Y arr (e.base+i*es) row)
 | .ak vs=> ∃e,Y.get b=some (some e)/\e.base=0/\∃T fz,w.heap[e.g]?=some (.cells vs.toArray T fz)
 | .qM s pos=> ∃e,Y.get b=some (some e)/\e.base=0/\w.heap[e.g]?=some (.stringIter ⟨s.toArray⟩ pos)
 | .mp rs=> ∃e es,Y.get b=some (some e)/\e.base=0/\w.heap[e.g]?=some (.map es es.size)/\es.size=rs.length/\∀i row,rs[i]?=some row->∃en:MapEntry,es[i]?=some en/\en.born=i/\w6 Y row [en.key,en.val]
 | .eP f=> ∃e,Y.get b=some (some e)/\e.base=0/\w.heap[e.g]?=some (.deferred (some []))/\(∀n∈f,w.heap[n]?=some (.deferred (some [])))/\(e.g::f).Nodup
 | .lp st li fr=> ∃e r,Y.get b=some (some e)/\e.base=0/\w.heap[e.g]?=some (.loop r)/\gG Y r st li fr
 | .jJ T t l=> ∃e,Y.get b=some (some e)/\e.base=0/\Lib.IsBuilderF T t 0 e.g (Lib.byteCells l) w
 | .deep true es rs=>(eF Y w b (ZB rs)/\es=2)/\qt Y w b es rs
 | .deep false es rs=>qm Y w own b es (ZB rs)/\qt Y w b es rs
def wZ(w:World)(g:Nat):Hp->Nat->Prop
 | .jJ _ _ _,k=> ∃arr T fz v,w.heap[g]?=some (.cells arr T fz)/\arr[1]?=some v/\v.ownBlock=some k
 | .deep _ es rs,k=> ∃o i j x v,w.heap[g]?=some o/\Yl rs i j=some x/\ZJ o es i j=some v/\v.ownBlock=some k
 | .eP f,k=>k∈f
 |_,_=>False
def wq(Y:Env)(w:World)(b:qP)(h:Hp)(k:Nat):Prop:=∃e,Y.get b=some (some e)/\(e.g=k\/wZ w e.g h k)
structure jS(w0 w:World)(F:Nat->Prop):Prop where
 os:w.os=w0.os
 tape:w.tape=w0.tape
 output:w.output=w0.output
 drawn:w0.drawn<=w.drawn
 size:w0.heap.size<=w.heap.size
 block:∀k,k<w0.heap.size->¬F k->w.heap[k]?=w0.heap[k]?
structure Mx where
 P:Program
 C:Cx
 w0:World
 F:Nat->Prop
 η0:Env
 px:Option (Fr×(SV->w9->Nat->Prop)):=none
def Mx.wS(M:Mx):Fence:={Fence.wide with round:=M.C.ro.map (·.1)}
theorem Mx.all(M:Mx)(f:FuncId):M.wS.fn f:=trivial
theorem Mx.room(M:Mx)(n:Nat):M.wS.room n:=fun _ h=>by cases h
def Ht(M:Mx)(Y:Env)(w:World)(O:w9):Prop:=
 (∀i h,wu i O=some h->uZ Y w true (.loc i) h/\∀k,wq Y w (.loc i) h k->(M.F k\/M.w0.heap.size<=k))/\
 (∀i j h h' k,wu i O=some h->wu j O=some h'->i≠j->wq Y w (.loc i) h k->¬wq Y w (.loc j) h' k)
def cT(C:Cx):qP->Option Hp
 | .loc i=>jd (.loc i) C.S
 | .qf g=>wu g C.T.jc
def G0(M:Mx):Prop:=
 ∀b h,cT M.C b=some h->uZ M.η0 M.w0 false b h/\∀k,wq M.η0 M.w0 b h k->k<M.w0.heap.size/\¬M.F k
structure uY(M:Mx)(Y:Env)(w:World)(O:w9)(nx:Nat):Prop where
 pre:M.η0<+:Y
 len:Y.length=nx
 own:Ht M Y w O
 fr:jS M.w0 w M.F
 qN:G0 M
def gI(Y:Env)(a:Act)(fr:Fr):Prop:=∀t sv,wu t fr=some sv->Den Y sv (a.tmps.getD t undef)
def qA(a:Act)(path:List (Nat×Bool)):Prop:=∀p∈path,a.tmps.getD p.1 undef= .bool p.2
def ay(Y:Env)(a:Act)(gs:Gs):Prop:=
 ∀t path sv,wu t gs=some (path,sv)->(qA a path->Den Y sv (a.tmps.getD t undef))/\(¬qA a path->a.tmps.getD t undef=undef)
abbrev DS:Nat:=1000000000
def iA(f:List Nat):List Deferred:=f.map fun n=>{target:= .collected n,args:= #[]}
def nZ(f:List Nat):Value:= .tuple (f.map fun(n:Nat)=>Value.int .i64 (n:Int)).toArray
def fe(Y:Env):List SV->List Deferred->Prop
 | [],ds=>ds=[]
 | .ptr b _ _ _::l,ds=> ∃e r,Y.get b=some (some e)/\ds={target:= .collected e.g,args:= #[]}::r/\fe Y l r
 | .val v::l,ds=> ∃f r,v=nZ f/\ds=iA f++r/\fe Y l r
 | .fn f a b::l,ds=> ∃us vs r,w6 Y a us/\w6 Y b vs/\ds={target:= .fn f ⟨vs⟩,args:=⟨us⟩}::r/\fe Y l r
 |_::_,_=>False
def jf(Y:Env)(ds:List Deferred):Option SV->Prop
 |some (.eE l)=>fe Y l ds
 |_=>ds=[]
structure wz(M:Mx)(Y:Env)(fr:Fr)(O:w9)(nx:Nat)(a:Act)(w:World):Prop where
 heap:uY M Y w O nx
 size:a.tmps.size=M.C.N
 cN:M.C.N<=DS
 defers:jf Y a.defers (wu DS fr)
 ro:∀l j,M.C.ro=some (l,j)->∃e,Y[j]?=some (some e)/\e.g=l
 frame:gI Y a fr
inductive Ex where
 |normal|exit (id:Nat)|ret
abbrev Post:=Ex->Fr->w9->Nat->Prop
def Hu(M:Mx)(ch:List PanicEntry)(a:Act)(w:World):Prop:=
 ∃kp X,M.px=some (kp,X)/\∃Y O nx v sv,ch=[{v,recovered:=false}]/\wz M Y kp O nx a w/\Den Y sv v/\X sv O nx
def K2(M:Mx)(Q:Post):Exit->Act->World->Prop
 | .normal,a,w=> ∃Y fr O nx,wz M Y fr O nx a w/\Q .normal fr O nx
 | .exit id,a,w=> ∃Y fr O nx,wz M Y fr O nx a w/\Q (.exit id) fr O nx
 | .ret,a,w=> ∃Y fr O nx,wz M Y fr O nx a w/\Q .ret fr O nx
 | .panic ch,a,w=>Hu M ch a w
 |_,_,_=>False
def Walk(M:Mx)(c:Code)(fr:Fr)(O:w9)(nx:Nat)(Q:Post):Prop:=
 ∀Y a w,wz M Y fr O nx a w->c.wpIn M.wS 0 M.P (K2 M Q) a w
def jY(P:Program)(f:FuncId)(args:Array Value)(w:World)(R:Value->World->Prop):Prop:=
 (∃g,(callFunc f args).run P w= .ok (.enter g args) w/\Calls P g args w fun e w'=> ∃v,e= .returned v/\R v w')\/
 (∃v w',(callFunc f args).run P w= .ok (.value v) w'/\R v w')
structure CALL(M:Mx)(f:FuncId)(args:List SV)(O:w9)(nx:Nat)(K:SV->w9->Nat->Prop):Prop where
 out:∀Y w vs,uY M Y w O nx->w6 Y args vs->
  jY M.P f ⟨vs⟩ w fun v w'=> ∃r O' w8 η',Y<+:η'/\uY M η' w' O' w8/\Den η' r v/\K r O' w8
def gJ(P:Program)(f:FuncId)(args:Array Value)(w:World)(R RP:Value->World->Prop):Prop:=
 (∃g,(callFunc f args).run P w= .ok (.enter g args) w/\Calls P g args w fun e w'=>(∃v,e= .returned v/\R v w')\/∃v,e= .panicked [{v,recovered:=false}]/\RP v w')\/
 (∃v w',(callFunc f args).run P w= .ok (.value v) w'/\R v w')
structure fK(M:Mx)(f:FuncId)(args:List SV)(O:w9)(nx:Nat)(KP K:SV->w9->Nat->Prop):Prop where
 out:∀Y w vs,uY M Y w O nx->w6 Y args vs->
  gJ M.P f ⟨vs⟩ w (fun v w'=> ∃r O' w8 η',Y<+:η'/\uY M η' w' O' w8/\Den η' r v/\K r O' w8) fun v w'=> ∃r O' w8 η',Y<+:η'/\uY M η' w' O' w8/\Den η' r v/\KP r O' w8
def Dz:Fr->Fr->Prop
 | [],_=>True
 |(t,v)::r,fr=>wu t fr=some v/\Dz r fr
def DA(kp fr:Fr):Prop:=wu 1000000000 fr=wu 1000000000 kp/\Dz kp fr
structure wj(M:Mx)(body:Code)(fr:Fr)(O:w9)(nx:Nat)(Q:Post):Prop where
 out:∀Y a w,wz M Y fr O nx a w->∀(b:Frame) (k:List Item) (cs:List Frame),b.roundOf=M.wS.round->∃e a' w',K2 M Q e a' w'/\ArrivesIn (Machine.fenced M.P M.wS) M.P (lone (b.atR a (.code body:: .inLoop body::k)) cs w) b k cs e a' w'
structure bf(M:Mx)(j:Nat)(args:List SV)(O:w9)(nx:Nat)(K:SV->w9->Nat->Prop):Prop where
 out:∀Y w vs e,uY M Y w O nx->w6 Y args vs->Y[j]?=some (some e)->∃fn tmps cM body,(Instr.yield e.g ⟨vs⟩).run M.P w= .ok (.round e.g fn tmps cM body) w/\
  RoundIn Fence.wide 0 M.P e.g fn tmps cM body w fun en w'=> ∃v,en= .returned v/\∃r O' w8 η',Y<+:η'/\uY M η' w' O' w8/\Den η' r v/\K r O' w8
structure jK(M:Mx)(f:Operand)(ps:Array Tmp)(cM body:Code)(fr:Fr)(O:w9)(nx:Nat)(Q:Post):Prop where
 out:Walk M (.rangeFunc f ps cM body) fr O nx Q
structure wO(M:Mx)(id:Nat)(ops:Array Oper)(fr:Fr)(O:w9)(nx:Nat)(Q:Post):Prop where
 out:Walk M (.region id ops true) fr O nx Q
def lW(i:Nat)(h:Hp):w9->(w9->Prop)->Prop
 | [],K=>K []
 |(j,g)::r,K=>match Nat.beq i j with|true=>K ((j,h)::r)|false=>lW i h r fun r=>K ((j,g)::r)
def mb(i:Nat):w9->(w9->Prop)->Prop
 | [],K=>K []
 |(j,g)::r,K=>match Nat.beq i j with|true=>mb i r K|false=>mb i r fun r=>K ((j,g)::r)
abbrev jL:=(SV->w9->Nat->Prop)->Prop
def PS(O:w9)(nx:Nat)(v:SV):jL:=fun K=>oz v fun v=>K v O nx
def PT(O:w9)(nx:Nat)(v:SV)(h:Hp):jL:=fun K=>sR h fun h=>oz v fun v=>K v ((nx,h)::O) (nx+1)
def PU(O:w9)(nx:Nat)(i:Nat)(h:Hp)(v:SV):jL:=fun K=>sR h fun h=>oz v fun v=>lW i h O fun O=>K v O nx
def PV(O:w9)(nx:Nat)(i:Nat)(h:Hp)(v:SV):jL:=fun K=>sR h fun h=>oz v fun v=>mb i O fun O=>K v ((nx,h)::O) (nx+1)
def PW(p:Prop)(_:wW)(k:jL):jL:=fun K=>wm p (k K)
def PX(rs:List (List SV))(i:Nat)(_:List SV->wW)(f:List SV->jL):jL:=fun K=>GET rs i fun row=>lU row fun row=>f row K
def PY(b:Bool)(_ _:wW)(x y:jL):jL:=fun K=>IF b x y K
def PZ(r:Option (Nat×SV))(_:Nat->SV->wW)(_:wW)(f:Nat->SV->jL)(x:jL):jL:=fun K=>bJ r (fun i v K=>oz v fun v=>f i v K) x K
def N1(r:Option (Nat×DC))(_:Nat->DC->wW)(_:wW)(f:Nat->DC->jL)(x:jL):jL:=fun K=>kF r f x K
def N3(O:w9)(nx:Nat)(i:Nat)(h h2:Hp)(v:SV):jL:=fun K=>sR h fun h=>sR h2 fun h2=>oz v fun v=>lW i h O fun O=>K v ((nx,h2)::O) (nx+1)
def N4(O:w9)(nx:Nat)(i:Nat)(h:Hp)(k:Nat)(v:SV):jL:=fun K=>sR h fun h=>oz v fun v=>lW i h O fun O=>mb k O fun O=>K v O nx
def N5:jL:=fun _=>qc "operation"
noncomputable def wW.go (O:w9)(nx:Nat)(r:wW):jL:=
 wW.rec (motive:=fun _=>jL) (PS O nx) (PT O nx) (PU O nx) (PV O nx) PW PX PY PZ N1 (N3 O nx) (N4 O nx) N5 r
def qQ(d:Option Tmp)(v:SV)(fr:Fr)(K:Fr->Prop):Prop:=
 match d with
 |some d=>K ((d,v)::fr)
 |none=>K fr
def JN(N:Nat):Option Tmp->Bool
 |some d=>Nat.blt d N
 |none=>true
def Up(lk:Operand->Option SV)(c:Call):Option (FuncId×List SV):=
 match c.callee with
 | .value f=>match lk f,kX lk c.args.toList with
   |some (.fn (.func f) first cap),some args=>some (f,first++args++cap)
   |_,_=>none
 |_=>none
def DB(lk:Operand->Option SV)(c:Call):Option (Nat×List SV):=
 match c.callee with
 | .value f=>match lk f,kX lk c.args.toList with
   |some (.yf (.loc j)),some args=>some (j,args)
   |_,_=>none
 |_=>none
def DD(c:Call):Bool:=match c.callee with| .builtin _=>true|_=>false
def mc(M:Mx)(o:Oper)(lk:Operand->Option SV)(O:w9)(nx:Nat)(K:SV->w9->Nat->Prop):Prop:=
 match JN M.C.N o.dst with
 |false=>qc "slot"
 |true=>
  match o.op with
  | .call c=>match DD c with
    |true=>(qH M.C lk O nx (.call c)).go O nx K
    |false=>match Up lk c with
     |some (f,args)=>W1 args fun args=>CALL M f args O nx fun r O nx=>oz r fun r=>ig O fun O=>K r O nx
     |none=>match DB lk c with
      |some (j,args)=>W1 args fun args=>bf M j args O nx fun r O nx=>oz r fun r=>ig O fun O=>K r O nx
      |none=>qc "callee"
  |op=>(qH M.C lk O nx op).go O nx K
def YS:SV:= .wM []
def N6(M:Mx)(c:Call)(fr:Fr)(K:Fr->Prop):Prop:=
 match M.C.ro with
 |some _=>qc "defer"
 |none=>match c.callee,c.args.toList with
  | .value f,[]=>match V2 fr f with
    |some (.fn (.func g) [] cap)=>match wu DS fr with
     |none=>K ((DS, .eE [.fn (.func g) [] cap])::fr)
     |some _=>qc "defer"
    |_=>qc "defer"
  |_,_=>qc "defer"
def sX(M:Mx)(o:Oper)(fr:Fr)(O:w9)(nx:Nat)(K:Fr->SV->w9->Nat->Prop):Prop:=
 match M.px with
 |none=>mc M o (V2 fr) O nx (K fr)
 |some (kp,X)=>match JN M.C.N o.dst with
  |false=>qc "slot"
  |true=>match o.op with
   | .panic x=>match V2 fr x with
     |some (.dX t u)=>oz (.dX t u) fun v=>DA kp fr/\X v O nx
     |_=>qc "panic"
   | .defer c=>N6 M c fr fun fr=>K fr YS O nx
   | .call c=>match DD c with
     |true=>mc M o (V2 fr) O nx (K fr)
     |false=>match Up (V2 fr) c with
      |some (f,args)=>W1 args fun args=>fK M f args O nx (fun v O nx=>DA kp fr/\X v O nx) fun r O nx=>oz r fun r=>ig O fun O=>K fr r O nx
      |none=>mc M o (V2 fr) O nx (K fr)
   |_=>mc M o (V2 fr) O nx (K fr)
def W2(ops:List Oper)(j:Nat):Option Nat:=match nth ops j with|some o=>o.dst|none=>none
abbrev RunT:=Fr->w9->Nat->(Fr->w9->Nat->Prop)->Prop
def N7:RunT:=fun fr O nx K=>K fr O nx
def DE(M:Mx)(ops:List Oper)(o:Oper)(_:List Oper)(rest:RunT):RunT:=fun fr O nx K=>
 match o.guard with
 |none=>sX M o fr O nx fun fr v O nx=>qQ o.dst v fr fun fr=>rest fr O nx K
 |some (j,want)=>
  match W2 ops j with
  |none=>qc "guard"
  |some s=>match wu s fr with
   |some (.bool b)=>IF b
    (fun J=>match want with
     |true=>sX M o ((s, .bool true)::fr) O nx fun fr v O nx=>qQ o.dst v fr fun fr=>J fr O nx
     |false=>match JN M.C.N o.dst with|true=>qQ o.dst YS ((s, .bool true)::fr) fun fr=>J fr O nx|false=>qc "slot")
    (fun J=>match want with
     |false=>sX M o ((s, .bool false)::fr) O nx fun fr v O nx=>qQ o.dst v fr fun fr=>J fr O nx
     |true=>match JN M.C.N o.dst with|true=>qQ o.dst YS ((s, .bool false)::fr) fun fr=>J fr O nx|false=>qc "slot")
    (fun fr O nx=>rest fr O nx K)
   |some (.wM [])=>match JN M.C.N o.dst with|true=>qQ o.dst YS fr fun fr=>rest fr O nx K|false=>qc "slot"
   |some (.nb n)=>sU n
    (fun J=>match want with
     |true=>sX M o ((s, .bool true)::fr) O nx fun fr v O nx=>qQ o.dst v fr fun fr=>J fr O nx
     |false=>match JN M.C.N o.dst with|true=>qQ o.dst YS ((s, .bool true)::fr) fun fr=>J fr O nx|false=>qc "slot")
    (fun J=>match want with
     |false=>sX M o ((s, .bool false)::fr) O nx fun fr v O nx=>qQ o.dst v fr fun fr=>J fr O nx
     |true=>match JN M.C.N o.dst with|true=>qQ o.dst YS ((s, .bool false)::fr) fun fr=>J fr O nx|false=>qc "slot")
    (fun fr O nx=>rest fr O nx K)
   |_=>qc "guard"
noncomputable def pV (M:Mx)(ops:List Oper)(l:List Oper):RunT:=List.rec (motive:=fun _=>RunT) N7 (DE M ops) l
def Hv:List (Nat×Bool)->List (Nat×Bool)->Bool
 | [],_=>true
 |(s,b)::r,p=>(p.any fun q=>Nat.beq q.1 s&& (q.2==b))&&Hv r p
def rJ(fr:Fr)(gs:Gs)(path:List (Nat×Bool)):Operand->Option SV
 | .tmp t=>match wu t gs with
   |some (q,v)=>match Hv q path with|true=>some v|false=>none
   |none=>wu t fr
 |x=>V2 fr x
def G1(fr:Fr)(gs:Gs):List (Nat×Bool)->Option Bool
 | []=>some true
 |(s,want)::r=>
  match rJ fr gs r (.tmp s)with
  |some (.bool b)=>match G1 fr gs r with
   |some x=>match want with
    |true=>some (x&&b)
    |false=>some (x&&!b)
   |none=>none
  |_=>none
abbrev fP:=(SV->Prop)->Prop
def Hw(v:SV):fP:=fun K=>oz v K
def N8(g:Prop)(p:Prop)(_:wW)(k:fP):fP:=fun K=>wm (g->p) (k K)
def N9(g:Prop)(rs:List (List SV))(i:Nat)(_:List SV->wW)(f:List SV->fP):fP:=fun K=>dI g rs i fun row=>lU row fun row=>f row K
def rK:fP:=fun _=>qc "guarded operation"
noncomputable def wW.gg (g:Prop)(r:wW):fP:=
 wW.rec (motive:=fun _=>fP) Hw (fun _ _=>rK) (fun _ _ _=>rK) (fun _ _ _=>rK) (N8 g) (N9 g) (fun _ _ _ _ _=>rK) (fun _ _ _ _ _=>rK) (fun _ _ _ _ _=>rK) (fun _ _ _ _=>rK) (fun _ _ _ _=>rK) rK r
def Na(fr:Fr)(gs:Gs)(path:List (Nat×Bool))(c a b:Operand):wW:=
 match c with
 | .tmp s=>match rJ fr gs path c with
   |some (.bool x)=>match rJ fr gs ((s,true)::path) a,rJ fr gs ((s,false)::path) b with
    |some (.bool a),some (.bool b)=> .val (.bool (bif x then a else b))
    |_,_=> .fail
   |_=> .fail
 |_=> .fail
def K3(C:Cx)(fr:Fr)(gs:Gs)(path:List (Nat×Bool))(O:w9)(nx:Nat):Op->wW
 | .pick c a b=>Na fr gs path c a b
 |op=>qH C (rJ fr gs path) O nx op
def G2(d:Nat)(p:List (Nat×Bool)):Bool:=p.all fun q=>!(Nat.beq q.1 d)
def Nb(d:Option Tmp)(gs:Gs):Bool:=
 match d with
 |none=>true
 |some d=>gs.all fun e=>!(Nat.beq e.1 d)&&G2 d e.2.1
def rL(gs:Gs)(s:Nat)(want:Bool):List (Nat×Bool):=(s,want)::(match wu s gs with|some (q,_)=>q|none=>[])
abbrev G3:=Fr->Gs->w9->Nat->(Fr->w9->Nat->Prop)->Prop
def Zj6:G3:=fun fr _ O nx K=>K fr O nx
def DF(M:Mx)(ops:List Oper)(o:Oper)(_:List Oper)(rest:G3):G3:=fun fr gs O nx K=>
 match JN M.C.N o.dst with
 |false=>qc "slot"
 |true=>match Nb o.dst gs with
  |false=>qc "slot"
  |true=>match o.guard with
   |none=>(match o.op with
    | .call c=>match DD c with
      |true=>(K3 M.C fr gs [] O nx (.call c)).go O nx fun v O nx=>qQ o.dst v fr fun fr=>rest fr gs O nx K
      |false=>match Up (rJ fr gs []) c with
       |some (f,args)=>W1 args fun args=>CALL M f args O nx fun r O nx=>oz r fun r=>ig O fun O=>qQ o.dst r fr fun fr=>rest fr gs O nx K
       |none=>qc "callee"
    |op=>(K3 M.C fr gs [] O nx op).go O nx fun v O nx=>qQ o.dst v fr fun fr=>rest fr gs O nx K)
   |some (j,want)=>
    match W2 ops j with
    |none=>qc "guard"
    |some s=>match o.dst with
     |none=>qc "guard"
     |some d=>match G2 d (rL gs s want)with
      |false=>qc "slot"
      |true=>match G1 fr gs (rL gs s want)with
       |none=>qc "path"
       |some g=>(K3 M.C fr gs (rL gs s want) O nx o.op).gg (g=true) fun v=>rest ((d, .any)::fr) ((d,rL gs s want,v)::gs) O nx K
noncomputable def me (M:Mx)(ops:List Oper)(l:List Oper):G3:=List.rec (motive:=fun _=>G3) Zj6 (DF M ops) l
def DG:Op->Bool
 | .move _| .assign _| .pick .. | .binOp .. | .unOp .. | .load .. | .index .. | .indexAddr .. | .fieldAddr .. | .field .. | .extract .. | .nilCheck _| .slice .. =>false
 | .convert .. =>false
 | .build .. =>false
 | .call {callee:= .builtin .len, .. }=>false
 |_=>true
def Nc(ops:List Oper):Bool:=ops.any fun o=>match o.guard with|some _=>DG o.op|none=>false
def guarded(ops:List Oper):Bool:=ops.any fun o=>match o.guard with|some _=>true|none=>false
abbrev jT:=Fr->w9->Nat->Post->Prop
def Zm9:jT:=fun fr O nx Q=>Q .normal fr O nx
def ZkU(_:Nat):jT:=fun fr O nx Q=>Q .normal fr O nx
noncomputable def Nd (M:Mx)(id:Nat)(ops:Array Oper)(draw:Bool):jT:=fun fr O nx Q=>
 match draw with
 |true=>wO M id ops fr O nx Q
 |false=>match guarded ops.toList&&!(Nc ops.toList)&&M.px.isNone with
  |true=>me M ops.toList ops.toList fr [] O nx fun fr O nx=>Q .normal fr O nx
  |false=>pV M ops.toList ops.toList fr O nx fun fr O nx=>Q .normal fr O nx
def DH(_ _:Code)(a b:jT):jT:=fun fr O nx Q=>a fr O nx fun e fr O nx=>match e with| .normal=>b fr O nx Q|e=>Q e fr O nx
def Nf(c:Operand)(_ _:Code)(x y:jT):jT:=fun fr O nx Q=>
 match V2 fr c with
 |some (.bool b)=>match c with
  | .tmp t=>IF b (fun Q=>x ((t, .bool true)::fr) O nx Q) (fun Q=>y ((t, .bool false)::fr) O nx Q) Q
  |_=>IF b (fun Q=>x fr O nx Q) (fun Q=>y fr O nx Q) Q
 |some (.nb n)=>match c with
  | .tmp t=>sU n (fun Q=>x ((t, .bool true)::fr) O nx Q) (fun Q=>y ((t, .bool false)::fr) O nx Q) Q
  |_=>qc "test"
 |_=>qc "test"
def ZkW(id:Nat)(_:Code)(body:jT):jT:=fun fr O nx Q=>body fr O nx fun e fr O nx=>match e with
 | .exit i=>match Nat.beq i id with|true=>Q .normal fr O nx|false=>Q (.exit i) fr O nx
 |e=>Q e fr O nx
def Zma(M:Mx)(body:Code)(_:jT):jT:=fun fr O nx Q=>wj M body fr O nx Q
def Zj8(M:Mx)(f:Operand)(ps:Array Tmp)(cM body:Code)(_ _:jT):jT:=fun fr O nx Q=>jK M f ps cM body fr O nx Q
def Zmb(id:Nat):jT:=fun fr O nx Q=>Q (.exit id) fr O nx
def ZkX(_:Code)(body:jT):jT:=body
def DI:jT:=fun fr O nx Q=>Q .ret fr O nx
def Ng:jT:=fun _ _ _ _=>qc "code"
noncomputable def run (M:Mx)(c:Code):jT:=
 Code.rec (motive:=fun _=>jT) Zm9 (Nd M) DH Nf ZkW (Zma M) (Zj8 M) Zmb ZkX ZkU (fun _=>Ng) DI (fun _=>Ng) c
theorem ZcE{b:qP}{K:qP->Prop}:KO b K<->K b:=by cases b<;>rfl
theorem Nh{v:SV}{K:SV->Prop}:KQ v K<->K v:=by
 cases v<;>first|rfl|(simp only[KQ];exact ZcE)
theorem JX:∀{vs:List SV} {K:List SV->Prop},lU vs K<->K vs
 | [],_=>xK
 |c::cs,K=>by simp only[lU,Nh,JX]
theorem Ni{v:SV}{K:SV->Prop}:Hf v K<->K v:=by
 cases v<;>simp only[Hf,Nh,JX]
theorem Jc:∀{vs:List SV} {K:List SV->Prop},W1 vs K<->K vs
 | [],_=>xK
 |c::cs,K=>by simp only[W1,Ni,Jc]
theorem Yz{v:SV}{K:SV->Prop}:oz v K<->K v:=by
 cases v<;>simp only[oz,Ni,Jc]
theorem U7{h:Hp}{K:Hp->Prop}:sR h K<->K h:=by
 cases h<;>simp only[sR,JX]
theorem U8:∀{O:w9} {K:w9->Prop},ig O K<->K O
 | [],_=>xK
 |(i,h)::r,K=>by simp only[ig,U8]
theorem Jz{i:Nat}{h:Hp}:∀{O:w9} {K:w9->Prop},lW i h O K<->K (qh i h O)
 | [],_=>xK
 |(j,g)::r,K=>by
  unfold lW qh;cases Nat.beq i j
  exact Jz;exact xK
theorem XY{i:Nat}:∀{O:w9} {K:w9->Prop},mb i O K<->K (qy i O)
 | [],_=>xK
 |(j,g)::r,K=>by
  unfold mb qy;cases Nat.beq i j
  exact XY;exact XY
def wW.ok(O:w9)(nx:Nat):wW->SV->w9->Nat->Prop
 | .val v,v',O',w8=>v'=v/\O'=O/\w8=nx
 | .new v h,v',O',w8=>v'=v/\O'=(nx,h)::O/\w8=nx+1
 | .fu i h v,v',O',w8=>v'=v/\O'=qh i h O/\w8=nx
 | .dG i h v,v',O',w8=>v'=v/\O'=(nx,h)::qy i O/\w8=nx+1
 | .need p k,v',O',w8=>p/\k.ok O nx v' O' w8
 | .get rs i f,v',O',w8=> ∃row,rs[i]?=some row/\(f row).ok O nx v' O' w8
 | .find r f x,v',O',w8=>match r with|some (i,v)=>(f i v).ok O nx v' O' w8|none=>x.ok O nx v' O' w8
 | .findD r f x,v',O',w8=>match r with|some (i,v)=>(f i v).ok O nx v' O' w8|none=>x.ok O nx v' O' w8
 | .take i h h2 v,v',O',w8=>v'=v/\O'=(nx,h2)::qh i h O/\w8=nx+1
 | .dZ i h k v,v',O',w8=>v'=v/\O'=qy k (qh i h O)/\w8=nx
 | .ite b x y,v',O',w8=>if b=true then x.ok O nx v' O' w8 else y.ok O nx v' O' w8
 | .fail,_,_,_=>False
theorem wW.go_ok{O:w9}{nx:Nat}:∀{r:wW} {K:SV->w9->Nat->Prop},r.go O nx K->∃v O' w8,r.ok O nx v O' w8/\K v O' w8
 | .val v,K,h=>by simp only[wW.go,PS,Yz]at h;exact⟨_,_,_,⟨rfl,rfl,rfl⟩,h⟩
 | .new v g,K,h=>by simp only[wW.go,PT,Yz,U7]at h;exact⟨_,_,_,⟨rfl,rfl,rfl⟩,h⟩
 | .fu i g v,K,h=>by simp only[wW.go,PU,Yz,U7,Jz]at h;exact⟨_,_,_,⟨rfl,rfl,rfl⟩,h⟩
 | .dG i g v,K,h=>by simp only[wW.go,PV,Yz,U7,XY]at h;exact⟨_,_,_,⟨rfl,rfl,rfl⟩,h⟩
 | .need p k,K,h=>by
   simp only[wW.go,PW]at h;obtain⟨v,O',w8,h1,h2⟩:=wW.go_ok h.k;exact⟨v,O',w8,⟨h.p,h1⟩,h2⟩
 | .get rs i f,K,h=>by
   simp only[wW.go,PX,JX]at h;obtain⟨row,hr,h⟩:=h.out;obtain⟨v,O',w8,h1,h2⟩:=wW.go_ok h;exact⟨v,O',w8,⟨row,hr,h1⟩,h2⟩
 | .find r f x,K,h=>by
   simp only[wW.go,PZ]at h;cases hr:r with
   |none=>
    obtain⟨v,O',w8,h1,h2⟩:=wW.go_ok (h.n hr);exact⟨v,O',w8,h1,h2⟩
   |some p=>
    obtain⟨i,u⟩:=p;have h:=h.s i u hr;rw[Yz]at h;obtain⟨v,O',w8,h1,h2⟩:=wW.go_ok h;exact⟨v,O',w8,h1,h2⟩
 | .findD r f x,K,h=>by
   simp only[wW.go,N1]at h;cases hr:r with
   |none=>
    obtain⟨v,O',w8,h1,h2⟩:=wW.go_ok (h.n hr);exact⟨v,O',w8,h1,h2⟩
   |some p=>
    obtain⟨i,u⟩:=p;obtain⟨v,O',w8,h1,h2⟩:=wW.go_ok (h.s i u hr);exact⟨v,O',w8,h1,h2⟩
 | .take i g g2 v,K,h=>by simp only[wW.go,N3,Yz,U7,Jz]at h;exact⟨_,_,_,⟨rfl,rfl,rfl⟩,h⟩
 | .dZ i g k v,K,h=>by simp only[wW.go,N4,Yz,U7,Jz,XY]at h;exact⟨_,_,_,⟨rfl,rfl,rfl⟩,h⟩
 | .ite b x y,K,h=>by
   simp only[wW.go,PY]at h;by_cases hb:b=true
   .obtain⟨v,O',w8,h1,h2⟩:=wW.go_ok (h.t hb);exact⟨v,O',w8,by simp only[wW.ok,zh hb];exact h1,h2⟩
   .obtain⟨v,O',w8,h1,h2⟩:=wW.go_ok (h.f (by simpa using hb));exact⟨v,O',w8,by simp only[wW.ok,z7 hb];exact h1,h2⟩
 | .fail,K,h=>by simp only[wW.go,N5]at h;exact h.out.elim
theorem Zs{a b:Nat}(h:Nat.beq a b=true):a=b:=uc h
theorem Xh(a:Nat):Nat.beq a a=true:=uF a
theorem Hx{a b:Nat}(h:a≠b):Nat.beq a b=false:=by
 cases e:Nat.beq a b
 rfl
 exact(h (Zs e)).elim
theorem JA{a b:Nat}(h:Nat.beq a b=false):a≠b:=by
 intro e;subst e;rw[Xh]at h;cases h
section
variable {Y:Type}
theorem Za(t d:Nat)(v:Y)(r:List (Nat×Y)):wu t ((d,v)::r)=if t=d then some v else wu t r:=by
 by_cases h:t=d
 subst h;simp only[wu,Xh,zh];simp only[wu,Hx h,z7 h]
theorem Y0(i:Nat)(h:Y):∀(O:List (Nat×Y)) (j:Nat),(wu i O).isSome->wu j (qh i h O)=if j=i then some h else wu j O
 | [],j,hi=>by simp[wu]at hi
 |(d,u)::r,j,hi=>by
  unfold qh;by_cases e:i=d
  subst e;simp only[Xh,Za];split<;>rfl
  .simp only[Hx e,Za];rw[Za,z7 e]at hi;have ih:=Y0 i h r j hi;by_cases hj:j=d
   subst hj;rw[zh rfl,z7 (fun h=>e h.symm),zh rfl];rw[z7 hj,z7 hj,ih]
theorem XZ(i:Nat):∀(O:List (Nat×Y)) (j:Nat),j≠i->wu j (qy i O)=wu j O
 | [],j,hj=>rfl
 |(d,u)::r,j,hj=>by
  unfold qy;by_cases e:i=d
  subst e;simp only[Xh,Za,z7 hj];exact XZ i r j hj;simp only[Hx e,Za,XZ i r j hj]
theorem Yh(i:Nat):∀(O:List (Nat×Y)),wu i (qy i O)=none
 | []=>rfl
 |(d,u)::r=>by
  unfold qy;by_cases e:i=d
  subst e;simp only[Xh];exact Yh i r;simp only[Hx e,Za,z7 e];exact Yh i r
end
theorem pW{a b:qP}:ow a b=true<->a=b:=by
 cases a<;>cases b<;>simp[ow]
theorem Env.wE{J η':Env}(h:J<+:η'){b:qP}{x:Option kM}(hb:J.get b=some x):η'.get b=some x:=by
 cases b with
 |qf g=>exact hb
 |loc i=>
  obtain⟨t,rfl⟩:=h;simp only[Env.get]at hb⊢;rw[zn (zf.1 hb).1];exact hb
mutual
theorem Den.mono{J η':Env}(h:J<+:η'):∀{sv:SV} {v:Value},Den J sv v->Den η' sv v
 | .bool _,_,d=>d
 | .int _ _,_,d=>d
 | .str _,_,d=>d
 | .ptr b r es c,v,d=>by
   simp only[Den]at d⊢;obtain⟨e,h1,h2⟩:=d;exact⟨e,Env.wE h h1,h2⟩
 | .sl b r es len lim,v,d=>by
   simp only[Den]at d⊢;rcases d with⟨h1,h2⟩|⟨e,o,h1,h2⟩
   exact .inl ⟨Env.wE h h1,h2⟩;exact .inr ⟨e,o,Env.wE h h1,h2⟩
 | .val _,_,d=>d
 | .agg cs,v,d=>by
   simp only[Den]at d⊢;obtain⟨vs,h1,h2,h3⟩:=d;exact⟨vs,h1,w6.mono h h2,h3⟩
 | .arr es rs,v,d=>by
   simp only[Den]at d⊢;obtain⟨vs,h1,h2,h3⟩:=d;exact⟨vs,h1,wI.mono h h2,h3⟩
 | .wM ts,v,d=>by
   simp only[Den]at d⊢;obtain⟨vs,h1,h2⟩:=d;exact⟨vs,h1,w6.mono h h2⟩
 | .dX t x,v,d=>by
   simp only[Den]at d⊢;obtain⟨u,h1,h2⟩:=d;exact⟨u,h1,Den.mono h h2⟩
 | .fn f a b,v,d=>by
   simp only[Den]at d⊢;obtain⟨us,vs,h1,h2,h3⟩:=d;exact⟨us,vs,h1,w6.mono h h2,w6.mono h h3⟩
 | .mp b,v,d=>by
   simp only[Den]at d⊢;obtain⟨e,h1,h2⟩:=d;exact⟨e,Env.wE h h1,h2⟩
 | .yf b,v,d=>by
   simp only[Den]at d⊢;obtain⟨e,h1,h2⟩:=d;exact⟨e,Env.wE h h1,h2⟩
 | .eE _,_,d=>d
 | .any,_,d=>d
 | .nb _,_,d=>d
theorem w6.mono{J η':Env}(h:J<+:η'):∀{cs:List SV} {vs:List Value},w6 J cs vs->w6 η' cs vs
 | [],_,d=>d
 |c::cs,vs,d=>by
  simp only[w6]at d⊢;obtain⟨u,us,h1,h2,h3⟩:=d;exact⟨u,us,h1,Den.mono h h2,w6.mono h h3⟩
theorem wI.mono{J η':Env}{es:Nat}(h:J<+:η'):∀{rs:List (List SV)} {vs:List Value},wI J es rs vs->wI η' es rs vs
 | [],_,d=>d
 |r::rs,vs,d=>by
  simp only[wI]at d⊢;obtain⟨us,ws,h1,h2,h3,h4⟩:=d;exact⟨us,ws,h1,h2,w6.mono h h3,wI.mono h h4⟩
end
theorem wK.mono{J η':Env}(h:J<+:η'){arr:Array Value}{o:Nat}{row:List SV}(d:wK J arr o row):wK η' arr o row:=
 fun j sv hj=>let⟨v,h1,h2,h3⟩:=d j sv hj;⟨v,h1,h2,h3.mono h⟩
theorem kY.mono{J η':Env}(h:J<+:η'){tmps:Array Value}{fr:Fr}(d:kY J tmps fr):kY η' tmps fr:=fun t sv ht=>(d t sv ht).mono h
theorem gG.mono{J η':Env}(h:J<+:η'){r:Loop}{st:pT}{li:rI}{fr:Fr}(d:gG J r st li fr):gG η' r st li fr:=
 let⟨h1,h2,h3,h4,h5,h6,h7⟩:=d;⟨h1,h2,h3,h4,h5,h6,h7.mono h⟩
theorem fe.mono{J η':Env}(h:J<+:η'):∀{l:List SV} {ds:List Deferred},fe J l ds->fe η' l ds
 | [],_,d=>d
 |c::l,ds,d=>by
  cases c with
  |ptr b _ _ _=>
   simp only[fe]at d⊢;obtain⟨e,r,h1,h2,h3⟩:=d;exact⟨e,r,Env.wE h h1,h2,fe.mono h h3⟩
  |val v=>
   simp only[fe]at d⊢;obtain⟨f,r,h1,h2,h3⟩:=d;exact⟨f,r,h1,h2,fe.mono h h3⟩
  |fn f x y=>
   simp only[fe]at d⊢;obtain⟨us,vs,r,h1,h2,h3,h4⟩:=d;exact⟨us,vs,r,h1.mono h,h2.mono h,h3,fe.mono h h4⟩
  |_=>simp only[fe]at d
theorem jf.mono{J η':Env}(h:J<+:η'){ds:List Deferred}{v:Option SV}(d:jf J ds v):jf η' ds v:=by
 unfold jf at d⊢;split at d
 exact fe.mono h d;exact d
theorem qz.mono{J η':Env}(h:J<+:η'){w:World}{v:Value}{es:Nat}{rows:List (List SV)}(d:qz J w v es rows):qz η' w v es rows:=
 d.imp id fun⟨g,cap,arr,T,fz,h1,h2,h3,h4,h5,h6⟩=>⟨g,cap,arr,T,fz,h1,h2,h3,h4,h5,fun i row hr=>⟨(h6 i row hr).1,(h6 i row hr).2.mono h⟩⟩
theorem kG.mono{J η':Env}(h:J<+:η'){w:World}{g:Nat}{o:Obj}{es:Nat}{rs:List (List DC)}(d:kG J w g o es rs):kG η' w g o es rs:=
 ⟨fun i j es' rows hk=>let⟨v,h1,h2,h3⟩:=d.sat i j es' rows hk;⟨v,h1,h2.mono h,h3⟩,d.ne⟩
theorem qm.pX{J:Env}{w:World}{own:Bool}{b:qP}{es:Nat}{rs:List (List SV)}(d:qm J w own b es rs):∃x,J.get b=some x/\∀e,x=some e->e.g<w.heap.size:=by
 rcases d with h|⟨e,arr,T,fz,h1,h2,h3⟩
 exact⟨_,h.1,fun e' he=>by cases he⟩;exact⟨_,h1,fun e' he=>by cases he;exact(zz.1 h2).1⟩
theorem eF.pX{J:Env}{w:World}{b:qP}{rs:List (List SV)}(d:eF J w b rs):∃x,J.get b=some x/\∀e,x=some e->e.g<w.heap.size:=by
 obtain⟨e,es,h1,h2,h3,h4⟩:=d;exact⟨_,h1,fun e' he=>by cases he;exact(zz.1 h3).1⟩
theorem qt.mono{J η':Env}(h:J<+:η'){w:World}{b:qP}{es:Nat}{rs:List (List DC)}{x:Option kM}(hx:J.get b=some x)(d:qt J w b es rs):qt η' w b es rs:=by
 intro e he;have:=Env.wE h hx;rw[this]at he;injection he with he;subst he
 obtain⟨h1,h2⟩:=d e hx;exact⟨h1,fun o ho=>(h2 o ho).mono h⟩
theorem uZ.mono{J η':Env}(h:J<+:η'){w:World}{own:Bool}{b:qP}:∀{hp:Hp},uZ J w own b hp->uZ η' w own b hp
 | .box row,d=>by
   simp only[uZ]at d⊢;obtain⟨e,arr,T,fz,h1,h2,h3,h4⟩:=d;exact⟨e,arr,T,fz,Env.wE h h1,h2,h3,h4.mono h⟩
 | .rows es rs,d=>by
   simp only[uZ]at d⊢;rcases d with⟨h1,h2⟩|⟨e,arr,T,fz,h1,h2,h3,h4⟩
   exact .inl ⟨Env.wE h h1,h2⟩;exact .inr ⟨e,arr,T,fz,Env.wE h h1,h2,h3,fun i row hr=>⟨(h4 i row hr).1,(h4 i row hr).2.mono h⟩⟩
 | .ak vs,d=>by
   simp only[uZ]at d⊢;obtain⟨e,h1,h2⟩:=d;exact⟨e,Env.wE h h1,h2⟩
 | .qM s p,d=>by
   simp only[uZ]at d⊢;obtain⟨e,h1,h2⟩:=d;exact⟨e,Env.wE h h1,h2⟩
 | .mp rs,d=>by
   simp only[uZ]at d⊢;obtain⟨e,es,h1,h2,h3,h4,h5⟩:=d;exact⟨e,es,Env.wE h h1,h2,h3,h4,fun i row hr=>let⟨en,g1,g2,g3⟩:=h5 i row hr;⟨en,g1,g2,w6.mono h g3⟩⟩
 | .eP _,d=>by
   simp only[uZ]at d⊢;obtain⟨e,h1,h2⟩:=d;exact⟨e,Env.wE h h1,h2⟩
 | .lp st li fr,d=>by
   simp only[uZ]at d⊢;obtain⟨e,r,h1,h2,h3,h4⟩:=d;exact⟨e,r,Env.wE h h1,h2,h3,h4.mono h⟩
 | .jJ T t l,d=>by
   simp only[uZ]at d⊢;obtain⟨e,h1,h2⟩:=d;exact⟨e,Env.wE h h1,h2⟩
 | .deep true es rs,d=>by
   simp only[uZ]at d⊢;obtain⟨⟨d1,d0⟩,d2⟩:=d;obtain⟨x,hx,_⟩:=d1.pX;refine⟨⟨?_,d0⟩,d2.mono h hx⟩;obtain⟨e,es,h1,h2,h3,h4,h5⟩:=d1;exact⟨e,es,Env.wE h h1,h2,h3,h4,fun i row hr=>let⟨en,g1,g2,g3⟩:=h5 i row hr;⟨en,g1,g2,w6.mono h g3⟩⟩
 | .deep false es rs,d=>by
   simp only[uZ]at d⊢;obtain⟨d1,d2⟩:=d;obtain⟨x,hx,_⟩:=d1.pX;refine⟨?_,d2.mono h hx⟩;rcases d1 with⟨h1,h2⟩|⟨e,arr,T,fz,h1,h2,h3,h4⟩
   exact .inl ⟨Env.wE h h1,h2⟩;exact .inr ⟨e,arr,T,fz,Env.wE h h1,h2,h3,fun i row hr=>⟨(h4 i row hr).1,(h4 i row hr).2.mono h⟩⟩
theorem wq.own{J:Env}{w:World}{b:qP}{h:Hp}{e:kM}(he:J.get b=some (some e)):wq J w b h e.g:=⟨e,he, .inl rfl⟩
theorem wq.mono{J η':Env}(h:J<+:η'){w:World}{b:qP}{hp:Hp}{k:Nat}(f:wq J w b hp k):wq η' w b hp k:=
 let⟨e,h1,h2⟩:=f;⟨e,Env.wE h h1,h2⟩
theorem wq.less{J η':Env}(h:J<+:η'){w:World}{b:qP}{hp:Hp}{k:Nat}{x:Option kM}(hx:J.get b=some x)(f:wq η' w b hp k):wq J w b hp k:=by
 obtain⟨e,h1,h2⟩:=f;have:=Env.wE h hx;rw[this]at h1;exact⟨e,hx.trans h1,h2⟩
theorem wZ.keep{w w':World}{g:Nat}{hp:Hp}{k:Nat}(hw:w'.heap[g]?=w.heap[g]?)(f:wZ w' g hp k):wZ w g hp k:=by
 cases hp with
 |jJ T t l=>
  simp only[wZ]at f⊢;obtain⟨arr,T',fz,v,h1,h2,h3⟩:=f;exact⟨arr,T',fz,v,hw▸h1,h2,h3⟩
 |deep mp es rs=>
  simp only[wZ]at f⊢;obtain⟨o,i,j,x,v,h1,h2,h3,h4⟩:=f;exact⟨o,i,j,x,v,hw▸h1,h2,h3,h4⟩
 |_=>exact f
theorem wq.keep{J:Env}{w w':World}{b:qP}{hp:Hp}{k:Nat}(hw:∀e,J.get b=some (some e)->w'.heap[e.g]?=w.heap[e.g]?)(f:wq J w' b hp k):wq J w b hp k:=
 let⟨e,h1,h2⟩:=f;⟨e,h1,h2.imp id fun h=>h.keep (hw e h1)⟩
theorem Z9U{w w':World}{base:Nat}{t:TypeId}{size n:Nat}{v:Value}{xs:List Value}(h:w.ownsRowF base t size v n xs)(hk:∀k,v.ownBlock=some k->w'.heap[k]?=w.heap[k]?):w'.ownsRowF base t size v n xs:=by
 obtain⟨h1,h2⟩:=h;refine⟨h1,h2.imp id ?_⟩;rintro⟨g,cap,cur,fz,rfl,h3,h4,h5⟩;exact⟨g,cap,cur,fz,rfl,h3,(hk g rfl).trans h4,h5⟩
theorem Nj{w w':World}{T t:TypeId}{b:Nat}{p:Value}{bs:List Value}(h:Lib.BuilderAtF T t 0 b p bs w)(hk:∀k,k=b\/wZ w b (.jJ T t []) k->w'.heap[k]?=w.heap[k]?):Lib.BuilderAtF T t 0 b p bs w':=by
 obtain⟨h1,v,h2,h3,h4⟩:=h;refine⟨h1,v,(hk b (.inl rfl)).trans h2,Z9U h3 fun k hv=>hk k (.inr ?_),h4⟩;simp only[wZ];exact⟨_,_,_,v,h2,rfl,hv⟩
theorem qz.keep{J:Env}{w w':World}{v:Value}{es:Nat}{rows:List (List SV)}(d:qz J w v es rows)(hk:∀k,v.ownBlock=some k->w'.heap[k]?=w.heap[k]?):qz J w' v es rows:=by
 rcases d with d|⟨g,cap,arr,T,fz,h1,h2,h3⟩
 exact .inl d;exact .inr ⟨g,cap,arr,T,fz,h1,(hk g (by rw[h1];rfl)).trans h2,h3⟩
theorem kG.keep{J:Env}{w w':World}{g:Nat}{o:Obj}{es:Nat}{rs:List (List DC)}(d:kG J w g o es rs)(hk:∀k i j x v,Yl rs i j=some x->ZJ o es i j=some v->v.ownBlock=some k->w'.heap[k]?=w.heap[k]?):kG J w' g o es rs:=
 ⟨fun i j es' rows dA=>let⟨v,h1,h2,h3⟩:=d.sat i j es' rows dA;⟨v,h1,h2.keep fun k hv=>hk k i j _ v dA h1 hv,h3⟩,d.ne⟩
theorem qt.keep{J:Env}{w w':World}{b:qP}{mp:Bool}{es:Nat}{rs:List (List DC)}(d:qt J w b es rs)(hk:∀k,wq J w b (.deep mp es rs) k->w'.heap[k]?=w.heap[k]?):qt J w' b es rs:=by
 intro e he;obtain⟨h1,h2⟩:=d e he;refine⟨h1,fun o ho=>?_⟩;rw[hk e.g (wq.own he)]at ho;refine(h2 o ho).keep fun k i j x v dA hc hv=>hk k ⟨e,he, .inr ?_⟩;simp only[wZ];exact⟨o,i,j,x,v,ho,dA,hc,hv⟩
theorem uZ.keep{J:Env}{w w':World}{own:Bool}{b:qP}{hp:Hp}(d:uZ J w own b hp)(hk:∀k,wq J w b hp k->w'.heap[k]?=w.heap[k]?):uZ J w' own b hp:=by
 cases hp with
 |box row=>
  simp only[uZ]at d⊢;obtain⟨e,arr,T,fz,h1,h2,h3⟩:=d;exact⟨e,arr,T,fz,h1,(hk e.g (wq.own h1)).trans h2,h3⟩
 |rows es rs=>
  simp only[uZ]at d⊢;rcases d with h|⟨e,arr,T,fz,h1,h2,h3⟩
  exact .inl h;exact .inr ⟨e,arr,T,fz,h1,(hk e.g (wq.own h1)).trans h2,h3⟩
 |ak vs=>
  simp only[uZ]at d⊢;obtain⟨e,h1,h2,T,fz,h3⟩:=d;exact⟨e,h1,h2,T,fz,(hk e.g (wq.own h1)).trans h3⟩
 |qM s p=>
  simp only[uZ]at d⊢;obtain⟨e,h1,h2,h3⟩:=d;exact⟨e,h1,h2,(hk e.g (wq.own h1)).trans h3⟩
 |mp rs=>
  simp only[uZ]at d⊢;obtain⟨e,es,h1,h2,h3,h4⟩:=d;exact⟨e,es,h1,h2,(hk e.g (wq.own h1)).trans h3,h4⟩
 |eP f=>
  simp only[uZ]at d⊢;obtain⟨e,h1,h2,h3,h4,h5⟩:=d;exact⟨e,h1,h2,(hk e.g (wq.own h1)).trans h3,fun n hn=>(hk n ⟨e,h1, .inr hn⟩).trans (h4 n hn),h5⟩
 |lp st li fr=>
  simp only[uZ]at d⊢;obtain⟨e,r,h1,h2,h3,h4⟩:=d;exact⟨e,r,h1,h2,(hk e.g (wq.own h1)).trans h3,h4⟩
 |jJ T t l=>
  simp only[uZ]at d⊢;obtain⟨e,h1,h2,h3⟩:=d
  have hk':∀k,k=e.g\/wZ w e.g (.jJ T t []) k->w'.heap[k]?=w.heap[k]?:=by
   rintro k (rfl|h);exact hk _ (wq.own h1);exact hk k ⟨e,h1, .inr h⟩
  exact⟨e,h1,h2,h3.imp (fun h=>Nj h hk') (fun h=>Nj h hk')⟩
 |deep mp es rs=>
  cases mp
  .simp only[uZ]at d⊢;obtain⟨d1,d2⟩:=d;refine⟨?_,d2.keep hk⟩;rcases d1 with h|⟨e,arr,T,fz,h1,h2,h3⟩
   exact .inl h;exact .inr ⟨e,arr,T,fz,h1,(hk e.g (wq.own h1)).trans h2,h3⟩
  .simp only[uZ]at d⊢;obtain⟨⟨d1,d0⟩,d2⟩:=d;refine⟨⟨?_,d0⟩,d2.keep hk⟩;obtain⟨e,es,h1,h2,h3,h4⟩:=d1;exact⟨e,es,h1,h2,(hk e.g (wq.own h1)).trans h3,h4⟩
theorem uZ.G4{J:Env}{w:World}{b:qP}{hp:Hp}{own:Bool}(d:uZ J w own b hp):uZ J w false b hp:=by
 cases hp with
 |box row=>
  simp only[uZ]at d⊢;obtain⟨e,arr,T,fz,h1,h2,h3,h4⟩:=d;exact⟨e,arr,T,fz,h1,h2,(fun h=>by cases h),h4⟩
 |rows es rs=>
  simp only[uZ]at d⊢;rcases d with h|⟨e,arr,T,fz,h1,h2,h3,h4⟩
  exact .inl h;exact .inr ⟨e,arr,T,fz,h1,h2,(fun h=>by cases h),h4⟩
 |qM s p=>exact d
 |ak vs=>exact d
 |mp rs=>exact d
 |eP f=>exact d
 |lp st li fr=>exact d
 |jJ T t l=>exact d
 |deep mp es rs=>
  cases mp
  .simp only[uZ]at d⊢;obtain⟨d1,d2⟩:=d;refine⟨?_,d2⟩;rcases d1 with h|⟨e,arr,T,fz,h1,h2,h3,h4⟩
   exact .inl h;exact .inr ⟨e,arr,T,fz,h1,h2,(fun h=>by cases h),h4⟩
  .simp only[uZ]at d⊢;exact d
theorem uZ.lt{J:Env}{w:World}{b:qP}{hp:Hp}{own:Bool}(d:uZ J w own b hp):∃x,J.get b=some x/\∀e,x=some e->e.g<w.heap.size:=by
 have key:∀{e:kM} {o:Obj},w.heap[e.g]?=some o->e.g<w.heap.size:=fun h=>(zz.1 h).1;cases hp with
 |box row=>
  simp only[uZ]at d;obtain⟨e,arr,T,fz,h1,h2,h3⟩:=d;exact⟨_,h1,fun e' he=>by cases he;exact key h2⟩
 |rows es rs=>
  simp only[uZ]at d;rcases d with h|⟨e,arr,T,fz,h1,h2,h3⟩
  exact⟨_,h.1,fun e' he=>by cases he⟩;exact⟨_,h1,fun e' he=>by cases he;exact key h2⟩
 |ak vs=>
  simp only[uZ]at d;obtain⟨e,h1,h2,T,fz,h3⟩:=d;exact⟨_,h1,fun e' he=>by cases he;exact key h3⟩
 |qM s p=>
  simp only[uZ]at d;obtain⟨e,h1,h2,h3⟩:=d;exact⟨_,h1,fun e' he=>by cases he;exact key h3⟩
 |mp rs=>
  simp only[uZ]at d;obtain⟨e,es,h1,h2,h3,h4⟩:=d;exact⟨_,h1,fun e' he=>by cases he;exact key h3⟩
 |eP f=>
  simp only[uZ]at d;obtain⟨e,h1,h2,h3,_⟩:=d;exact⟨_,h1,fun e' he=>by cases he;exact key h3⟩
 |lp st li fr=>
  simp only[uZ]at d;obtain⟨e,r,h1,h2,h3,h4⟩:=d;exact⟨_,h1,fun e' he=>by cases he;exact key h3⟩
 |jJ T t l=>
  simp only[uZ]at d;obtain⟨e,h1,h2,h3⟩:=d;refine⟨_,h1,fun e' he=>?_⟩;cases he
  rcases h3 with h3|h3<;>exact h3.lt
 |deep mp es rs=>
  cases mp
  .simp only[uZ]at d;exact d.1.pX
  .simp only[uZ]at d;exact d.1.1.pX
theorem wZ.lt{w:World}{g:Nat}{hp:Hp}{k:Nat}{J:Env}{own:Bool}{b:qP}{e:kM}(he:J.get b=some (some e))(hg:e.g=g)(d:uZ J w own b hp)(f:wZ w g hp k):k<w.heap.size:=by
 cases hp with
 |jJ T t l=>
  simp only[wZ]at f;simp only[uZ]at d;obtain⟨arr,T',fz,v,h1,h2,h3⟩:=f;obtain⟨e',h4,h5,h6⟩:=d;rw[he]at h4;injection h4 with h4;injection h4 with h4;subst h4 hg
  have key:∀p,Lib.BuilderAtF T t 0 e.g p (Lib.byteCells l) w->k<w.heap.size:=by
   rintro p ⟨_,v',h7,⟨_,h8⟩,_⟩;rw[h7]at h1;injection h1 with h1;injection h1 with h1;subst h1;simp at h2;subst h2;rcases h8 with⟨rfl,_⟩|⟨g,cap,cur,fz,rfl,_,h9,_⟩
   simp[Value.ownBlock]at h3
   .simp only[Value.ownBlock,zj]at h3;subst h3;exact(zz.1 h9).1
  exact h6.elim (key _) (key _)
 |deep mp es rs=>
  simp only[wZ]at f;obtain⟨o,i,j,⟨es',rows⟩,v,h1,h2,h3,h4⟩:=f
  have d2:qt J w b es rs:=by
   cases mp<;>simp only[uZ]at d<;>exact d.2
  subst hg;obtain⟨v',g1,g2,_⟩:=((d2 e he).2 o h1).sat i j es' rows h2;rw[h3]at g1;injection g1 with g1;subst g1
  rcases g2 with⟨rfl,_⟩|⟨g,cap,arr,T,fz,rfl,h5,_⟩
  cases h4
  .simp only[Value.ownBlock,zj]at h4;subst h4;exact(zz.1 h5).1
 |eP l=>
  simp only[uZ]at d;obtain⟨e',_,_,_,h4,_⟩:=d;exact(zz.1 (h4 k f)).1
 |_=>exact f.elim
theorem uZ.wY{J:Env}{w:World}{own:Bool}{b:qP}{hp:Hp}(d:uZ J w own b hp){k:Nat}(f:wq J w b hp k):k<w.heap.size:=by
 obtain⟨e,h1,h2⟩:=f;rcases h2 with rfl|h2
 .obtain⟨x,hx,hl⟩:=d.lt;rw[hx]at h1;injection h1 with h1
  exact hl e h1
 exact wZ.lt h1 rfl d h2
theorem jS.refl(w:World)(F:Nat->Prop):jS w w F:=⟨rfl,rfl,rfl,zo _,zo _,fun _ _ _=>rfl⟩
theorem jS.trans{a b c:World}{F:Nat->Prop}{G:Nat->Prop}(h:jS a b F)(k:jS b c G)(hg:∀n,G n->F n\/a.heap.size<=n):jS a c F:=
 ⟨k.os.trans h.os,k.tape.trans h.tape,k.output.trans h.output,zP h.drawn k.drawn,zP h.size k.size,fun i hi hF=>
  (k.block i (yL hi h.size) (fun g=>(hg i g).elim hF (fun h=>by omega))).trans (h.block i hi hF)⟩
theorem uY.shared{M:Mx}{J:Env}{w:World}{O:w9}{nx:Nat}(H:uY M J w O nx){b:qP}{h:Hp}(hb:cT M.C b=some h):uZ J w false b h:=by
 obtain⟨h1,h2⟩:=H.qN b h hb;refine(h1.keep (w':=w) fun k hk=>?_).mono H.pre;obtain⟨h3,h4⟩:=h2 k hk;exact H.fr.block k h3 h4
theorem uY.G5{M:Mx}{J:Env}{w:World}{O:w9}{nx:Nat}(H:uY M J w O nx){i:Nat}{h:Hp}(hi:wu i O=some h){e:kM}(he:J[i]?=some (some e)):M.F e.g\/M.w0.heap.size<=e.g:=(H.own.1 i h hi).2 e.g (wq.own he)
theorem uY.look{M:Mx}{J:Env}{w:World}{O:w9}{nx:Nat}(H:uY M J w O nx){b:qP}{h:Hp}(hb:Yk M.C O b=some h):uZ J w false b h:=by
 cases b with
 |qf g=>exact H.shared (b:= .qf g) hb
 |loc i=>
  simp only[Yk]at hb;cases ho:wu i O with
  |some h'=>rw[ho]at hb;cases hb;exact(H.own.1 i _ ho).1.G4
  |none=>rw[ho]at hb;exact H.shared (b:= .loc i) hb
theorem Zed(J:Env)(v:Value):Den J (Yy v) v:=by
 cases v with
 |string s=>simp only[Yy,Den]
 |agg cs=>simp only[Yy,Den]
 |tuple vs=>
  simp only[Yy];split
  .rename_i h;simp only[Den,w6];exact⟨[],by rw[<-h],rfl⟩
  simp only[Den]
 |_=>simp[Yy,Den,Value.oneCell']
theorem YA{J:Env}{a:Act}{fr:Fr}(h:gI J a fr){x:Operand}{sv:SV}(hx:V2 fr x=some sv):Den J sv (a.eval x):=by
 cases x with
 |tmp t=>exact h t sv hx
 |const v=>simp only[V2,zj]at hx;subst hx;exact Zed J v
 |global g=>simp only[V2,zj]at hx;subst hx;simp[Den,Env.get,Act.eval]
 |func f=>simp only[V2,zj]at hx;subst hx;simp[Den,w6,Act.eval]
end Go.Sx
set_option linter.unusedSimpArgs false
namespace Go.Sx
open Go
def jg(T:kE)(t:TypeId):Sh->TypeDesc->Prop
 | .int k,d=>d= .int k
 | .bool,d=>d= .bool
 | .str,d=>d= .string
 | .ptr e,d=>d= .pointer e
 | .slice e,d=>d= .slice e
 | .array n e,d=>d= .array n e/\T.size t=n*T.size e/\T.sh e≠ .other
 | .struct fs,d=> ∃fields:Array Field,d= .struct fields/\fields.toList.map (fun f=>(f.offset,f.type))=fs/\∀p∈fs,T.sh p.2≠ .other
 | .map k e,d=>d= .map k e
 | .iface,d=> ∃ms,d= .interface ms
 | .func,d=> ∃a b c,d= .func a b c
 | .plain,d=>match d with| .float _| .complex _| .chan .. | .unsafePointer| .tuple _=>True|_=>False
 | .other,_=>True
structure qa(P:Program)(T:kE):Prop where
 jk:∀t,T.sh t≠ .other->∃d,P.underlying t=some d/\jg T t (T.sh t) d
 info:∀t,T.sh t≠ .other->∃i,P.info? t=some i/\i.size=T.size t/\i.bytes=T.bytes t
 zero:∀t,T.sh t≠ .other->T.zero t≠ []->∃i z,P.info? t=some i/\i.zero=some z/\w6 [] (T.zero t) z.cells.toList/\(∀u∈z.cells.toList,u.oneCell'=true)/\
  (T.zero t).length=T.size t/\(YH T t (T.zero t)).isSome/\((∃fs,T.sh t= .struct fs)\/(∃n e,T.sh t= .array n e)->z= .agg z.cells)/\(¬((∃fs,T.sh t= .struct fs)\/(∃n e,T.sh t= .array n e))->z.oneCell'=true)
 sY:∀t,T.zero t≠ []->T.sh t≠ .other
 flat:∀t ks,T.flat t=some ks->P.eqGuardType P.depth t=false/\∀(w:World) (K:Env) (xs ys:List SV) (us vs:List Value) (r:Bool),Zk ks xs ys=some r->w6 K xs us->w6 K ys vs->
  (Op.equalIn 10000 t (.agg ⟨us⟩) (.agg ⟨vs⟩)).run P w= .ok r w
 key:∀t ks,T.key t=some ks->
  (∀(w:World) (K:Env) (em:Bool) (a:SV) (u:Value),Vz ks a=true->Den K a u->(Instr.checkKey em 10000 t u).run P w= .ok () w)/\
  (∀(w:World) (K:Env) (a b:SV) (u v:Value) (r:Bool),Uo ks a b=some r->Den K a u->Den K b v->(Op.equal t u v).run P w= .ok r w/\∀d,P.underlying t=some d->Instr.sameNow d u v=none\/Instr.sameNow d u v=some r)/\(∃d,P.underlying t=some d)
def sZ(P:Program)(o:Oper)(ρ:Operand->Value)(w:World)(u:Value)(w':World):Prop:=
 (execOp ρ o).run P w= .ok (.value u) w'\/((execOp ρ o).run P w= .ok .skip w'/\u=undef)
def Nk:Op->Bool
 | .store .. | .next .. | .mapUpdate .. | .insert .. | .mapEntry .. | .entryStore .. =>true
 | .call {callee:= .builtin .copy, .. }=>true
 | .call {callee:= .builtin .clear, .. }=>true
 |_=>false
def Y9(M:Mx)(K:Env)(w:World)(o:Oper)(ρ:Operand->Value)(v:SV)(O':w9)(w8:Nat):Prop:=
 ∃u w' η',sZ M.P o ρ w u w'/\K<+:η'/\uY M η' w' O' w8/\Den η' v u/\(Nk o.op=false->η'=K->w'=w)
structure At(M:Mx)(K:Env)(w:World)(O:w9)(nx:Nat)(ρ:Operand->Value)(lk:Operand->Option SV):Prop where
 H:uY M K w O nx
 T:qa M.P M.C.T
 L:∀x sv,lk x=some sv->Den K sv (ρ x)
section
variable {M:Mx}{K:Env}{w:World}{O:w9}{nx:Nat}{ρ:Operand->Value}{lk:Operand->Option SV}{o:Oper}{v:SV}{O':w9}{w8:Nat}
theorem At.same(A:At M K w O nx ρ lk){u:Value}(h:sZ M.P o ρ w u w)(hv:Den K v u)(e1:O'=O)(e2:w8=nx):Y9 M K w o ρ v O' w8:=by
 subst e1 e2;exact⟨u,w,K,h,zw,A.H,hv,fun _ _=>rfl⟩
theorem At.val(A:At M K w O nx ρ lk){v0:SV}(hr:(wW.val v0).ok O nx v O' w8)(h:∃u,sZ M.P o ρ w u w/\Den K v0 u):Y9 M K w o ρ v O' w8:=by
 obtain⟨rfl,e1,e2⟩:=hr;obtain⟨u,h1,h2⟩:=h;exact A.same h1 h2 e1 e2
end
theorem V4{K:Env}{k:IntKind}{n:Int}{v:Value}(h:Den K (.int k n) v):v= .int k n:=h
theorem X3{K:Env}{b:Bool}{v:Value}(h:Den K (.bool b) v):v= .bool b:=h
theorem tc{K:Env}{s:List UInt8}{v:Value}(h:Den K (.str s) v):v= .string ⟨s.toArray⟩:=h
theorem JO{P:Program}{r:Nat}{es:Array MapEntry}{c:Nat}{w:World}(h:w.heap[r]?=some (.map es c)):(getObj r).run P w= .ok (.map es c) w:=by simp[getObj,Sem.run,h]
theorem Z8{P:Program}{t:TypeId}{d:TypeDesc}(h:P.underlying t=some d)(w:World):(underlying t).run P w= .ok d w:=run_underlying h w
theorem WA{P:Program}{t:TypeId}{i:TypeInfo}(h:P.info? t=some i)(w:World):(typeInfo t).run P w= .ok i w:=by simp[typeInfo,h]
theorem Zv{P:Program}{t:TypeId}{i:TypeInfo}(h:P.info? t=some i)(w:World):(sizeOf t).run P w= .ok i.size w:=by simp[sizeOf,WA h]
theorem Jo{P:Program}{t:TypeId}{i:TypeInfo}{z:Value}(h:P.info? t=some i)(hz:i.zero=some z)(w:World):(zeroValue t).run P w= .ok z w:=by simp[zeroValue,WA h,hz]
theorem kf{a b:IntKind}:J9 a b=true<->a=b:=by cases a<;>cases b<;>simp[J9]
theorem DJ(s:List UInt8):(ByteArray.mk s.toArray).toList=s:=by rw[ByteArray.toList_eq]
theorem Z83{P:Program}{w:World}{op:BinOp}{k:IntKind}{a b:Int}{nx:Nat}{O:w9}{v':SV}{O':w9}{w8:Nat}(ρ:Operand->Value)(dst:Option Tmp)(ty:TypeId)(pos:String)(af:Array Edge)(gd:Option (Nat×Bool))
 (t u:TypeId) (x y:Operand) (k':IntKind) (K:Env) (hx:ρ x= .int k a) (hy:ρ y= .int k' b) (hr:(Dr op k k' a b).ok O nx v' O' w8):
 O'=O/\w8=nx/\∃z,(execOp ρ ⟨dst, .binOp op t x y u,ty,pos,af,gd⟩).run P w= .ok (.value z) w/\Den K v' z:=by
 have hg:(eqGuard op t x y (.int k a) (.int k' b))=pure ():=by cases op<;>rfl
 unfold Dr at hr;cases op
 case shl=>
  obtain⟨h0,rfl,rfl,rfl⟩:=hr;refine⟨rfl,rfl,_,?_,rfl⟩;simp[execOp,hx,hy,hg,binOp,Op.shift,Int.not_lt.2 h0,ax]
 case shr=>
  obtain⟨h0,rfl,rfl,rfl⟩:=hr;refine⟨rfl,rfl,_,?_,rfl⟩;simp[execOp,hx,hy,hg,binOp,Op.shift,Int.not_lt.2 h0,je]
 all_goals
  simp only at hr;cases hk:J9 k k'
  rw[hk]at hr;exact hr.elim
  .rw[hk]at hr;have hk:=kf.1 hk;subst hk
   first
    |(obtain⟨h0,rfl,rfl,rfl⟩:=hr
      refine⟨rfl,rfl,_,?_,rfl⟩
      simp[execOp,hx,hy,hg,binOp,Op.intDiv,h0])
    |(obtain⟨rfl,rfl,rfl⟩:=hr
      refine⟨rfl,rfl,_,?_,rfl⟩
      simp[execOp,hx,hy,hg,binOp,Op.intArith,Op.intBits,Op.intCmp,kr,oV,ox,Pa])
    |exact hr.elim
theorem Z84{P:Program}{w:World}{op:BinOp}{a b:List UInt8}{nx:Nat}{O:w9}{v':SV}{O':w9}{w8:Nat}(ρ:Operand->Value)(dst:Option Tmp)(ty:TypeId)(pos:String)(af:Array Edge)(gd:Option (Nat×Bool))
 (t u:TypeId) (x y:Operand) (K:Env) (hx:ρ x= .string ⟨a.toArray⟩) (hy:ρ y= .string ⟨b.toArray⟩) (hr:(Ds op a b).ok O nx v' O' w8):
 O'=O/\w8=nx/\∃z,(execOp ρ ⟨dst, .binOp op t x y u,ty,pos,af,gd⟩).run P w= .ok (.value z) w/\Den K v' z:=by
 have hg:(eqGuard op t x y (.string ⟨a.toArray⟩) (.string ⟨b.toArray⟩))=pure ():=by cases op<;>rfl
 unfold Ds at hr;cases op
 case add=>
  obtain⟨h0,rfl,rfl,rfl⟩:=hr;refine⟨rfl,rfl,_,?_,rfl⟩;have e1:ByteArray.size ⟨a.toArray⟩=a.length:=by simp[ByteArray.size]
  have e2:ByteArray.size ⟨b.toArray⟩=b.length:=by simp[ByteArray.size]
  have e3:(ByteArray.mk a.toArray++ByteArray.mk b.toArray)=ByteArray.mk (a++b).toArray:=by
   apply uR;simp
  have h1:¬(((a.length+b.length:Nat):Int)>9223372036854775807):=by omega
  simp[execOp,hx,hy,hg,binOp,Op.stringOp,e1,e2,e3];omega
 all_goals
  first
   |(obtain⟨rfl,rfl,rfl⟩:=hr
     refine⟨rfl,rfl,_,?_,rfl⟩
     simp[execOp,hx,hy,hg,binOp,Op.stringOp,DJ,QZ,bne])
   |exact hr.elim
end Go.Sx
namespace Go.Sx
open Go
section
variable {K:Env}
theorem ZU:∀{cs:List SV} {vs:List Value},w6 K cs vs->vs.length=cs.length
 | [],vs,h=>by simp only[w6]at h;subst h;rfl
 |c::cs,vs,h=>by
  simp only[w6]at h;obtain⟨u,us,rfl,_,h⟩:=h;simp[ZU h]
theorem Xx:∀{cs:List SV} {vs:List Value} {i:Nat} {c:SV},w6 K cs vs->cs[i]?=some c->∃u,vs[i]?=some u/\Den K c u
 | [],vs,i,c,h,hc=>by simp at hc
 |d::cs,vs,i,c,h,hc=>by
  simp only[w6]at h;obtain⟨u,us,rfl,h1,h2⟩:=h;cases i with
  |zero=>simp at hc;subst hc;exact⟨u,rfl,h1⟩
  |succ i=>simp at hc;simpa using Xx h2 hc
theorem VV{J:Type}:∀{cs:List J} {i:Nat},nth cs i=cs[i]?
 | [],i=>by simp[nth]
 |c::cs,0=>by simp[nth]
 |c::cs,i+1=>by simp[nth,VV (cs:=cs) (i:=i)]
theorem DK:∀{n:Nat} {cs:List SV} {vs:List Value},w6 K cs vs->w6 K (cs.drop n) (vs.drop n)
 |0,cs,vs,h=>h
 |n+1,[],vs,h=>by simp only[w6]at h;subst h;simp[w6]
 |n+1,c::cs,vs,h=>by
  simp only[w6]at h;obtain⟨u,us,rfl,_,h2⟩:=h;simpa using DK (n:=n) h2
theorem U9:∀{n:Nat} {cs r:List SV},pU n cs=some r->r=cs.take n/\n<=cs.length
 |0,cs,r,h=>by simp only[pU,zj]at h;subst h;simp
 |n+1,[],r,h=>by simp[pU]at h
 |n+1,c::cs,r,h=>by
  simp only[pU]at h;cases e:pU n cs with
  |none=>rw[e]at h;cases h
  |some q=>
   rw[e]at h;simp only[zj]at h;subst h;obtain⟨h1,h2⟩:=U9 e;subst h1;simp;omega
theorem DL:∀{n:Nat} {cs:List SV} {vs:List Value},w6 K cs vs->w6 K (cs.take n) (vs.take n)
 |0,cs,vs,h=>by simp[w6]
 |n+1,[],vs,h=>by simp only[w6]at h;subst h;simp[w6]
 |n+1,c::cs,vs,h=>by
  simp only[w6]at h;obtain⟨u,us,rfl,h1,h2⟩:=h;simp only[List.take_succ_cons,w6];exact⟨u,_,rfl,h1,DL (n:=n) h2⟩
theorem YV:∀{cs ds:List SV} {us vs:List Value},w6 K cs us->w6 K ds vs->w6 K (cs++ds) (us++vs)
 | [],ds,us,vs,h,k=>by simp only[w6]at h;subst h;exact k
 |c::cs,ds,us,vs,h,k=>by
  simp only[w6]at h;obtain⟨u,us,rfl,h1,h2⟩:=h;simp only[List.cons_append,w6];exact⟨u,_,rfl,h1,YV h2 k⟩
theorem DM:∀{cs:List SV} {vs:List Value},vs.length=cs.length->(∀(i:Nat) (c:SV),cs[i]?=some c->∃u,vs[i]?=some u/\Den K c u)->w6 K cs vs
 | [],vs,hl,_=>by simp only[w6];exact zJ.1 hl
 |c::cs,[],hl,_=>by simp at hl
 |c::cs,v::vs,hl,h=>by
  obtain⟨u,h1,h2⟩:=h 0 c rfl;simp at h1;subst h1;simp only[w6]
  exact⟨v,vs,rfl,h2,DM (by simpa using hl) fun i d hd=>by
   obtain⟨u,h3,h4⟩:=h (i+1) d (by simpa using hd)
   exact⟨u,by simpa using h3,h4⟩⟩
theorem jl{J:Type}:∀{xs:List J} {n:Nat},o6 xs n=true<->xs.length=n
 | [],0=>by simp[o6]
 | [],n+1=>by simp[o6]
 |x::xs,0=>by simp[o6]
 |x::xs,n+1=>by simp[o6,jl (xs:=xs) (n:=n)]
theorem XI{K:Env}{es:Nat}:∀{rs:List (List SV)} {vs:List Value},wI K es rs vs->w6 K rs.flatten vs
 | [],vs,h=>by simp only[wI]at h;subst h;simp[w6]
 |r::rs,vs,h=>by
  simp only[wI]at h;obtain⟨us,ws,rfl,_,h1,h2⟩:=h;simp only[List.flatten_cons];exact YV h1 (XI h2)
theorem Den.fJ{K:Env}{v:SV}{u:Value}(h:Den K v u):Den K (fJ v) u:=by
 cases v with
 |arr es rs=>
  simp only[Den]at h;obtain⟨vs,rfl,h1,h2⟩:=h;simp only[Sx.fJ,Den];exact⟨vs,rfl,XI h1,h2⟩
 |_=>exact h
theorem Nl{K:Env}{ρ:Operand->Value}{lk:Operand->Option SV}(L:∀x sv,lk x=some sv->Den K sv (ρ x)){x:Operand}{k:SV}(h:Hj lk x=some k):Den K k (ρ x):=by
 unfold Hj at h;split at h
 .rename_i k' hk;injection h with h;subst h;exact(L _ _ hk).fJ
 cases h
theorem W3{sv:SV}{cs:List SV}{v:Value}(h:Den K sv v)(hc:cellsOf sv=some cs):w6 K cs v.cells.toList/\∀u∈v.cells.toList,u.oneCell'=true:=by
 cases sv with
 |agg ds=>
  simp only[cellsOf,zj]at hc;subst hc;simp only[Den]at h;obtain⟨vs,rfl,h1,h2⟩:=h;exact⟨h1,h2⟩
 |arr _ _=>
  simp only[cellsOf,zj]at hc;subst hc;simp only[Den]at h;obtain⟨vs,rfl,h1,h2⟩:=h;exact⟨XI h1,h2⟩
 |wM _=>simp[cellsOf]at hc
 |any=>simp[cellsOf]at hc
 |nb n=>simp[cellsOf]at hc
 |eE l=>simp[cellsOf]at hc
 |yf b=>
  simp only[cellsOf,zj]at hc;subst hc;have h':=h;simp only[Den]at h;obtain⟨e,h1,rfl⟩:=h;simp only[Value.cells,w6];exact⟨⟨_,[],rfl,h',rfl⟩,by simp[Value.oneCell']⟩
 |bool b=>simp only[cellsOf,zj]at hc;subst hc;simp only[Den]at h;subst h;simp[w6,Den,Value.cells,Value.oneCell']
 |int k n=>simp only[cellsOf,zj]at hc;subst hc;simp only[Den]at h;subst h;simp[w6,Den,Value.cells,Value.oneCell']
 |str s=>simp only[cellsOf,zj]at hc;subst hc;simp only[Den]at h;subst h;simp[w6,Den,Value.cells,Value.oneCell']
 |val u=>
  simp only[cellsOf,zj]at hc;subst hc;have h':=h;simp only[Den]at h;obtain⟨rfl,h1⟩:=h;have hv:v.cells= #[v]:=by cases v<;>simp_all[Value.cells,Value.oneCell']
  rw[hv];simp only[w6];exact⟨⟨v,[],rfl,h',rfl⟩,by simpa using h1⟩
 |ptr b r es c=>
  simp only[cellsOf,zj]at hc;subst hc;have h':=h;simp only[Den]at h;obtain⟨e,h1,rfl⟩:=h;simp only[Value.cells,w6];exact⟨⟨_,[],rfl,h',rfl⟩,by simp[Value.oneCell']⟩
 |sl b r es len lim=>
  simp only[cellsOf,zj]at hc;subst hc;have h':=h;simp only[Den]at h;rcases h with⟨_,rfl,_⟩|⟨e,o,_,rfl,_⟩<;>simp only[Value.cells,w6]<;>exact⟨⟨_,[],rfl,h',rfl⟩,by simp[Value.oneCell']⟩
 |dX t x=>
  simp only[cellsOf,zj]at hc;subst hc;have h':=h;simp only[Den]at h;obtain⟨u,rfl,_⟩:=h;simp only[Value.cells,w6];exact⟨⟨_,[],rfl,h',rfl⟩,by simp[Value.oneCell']⟩
 |mp b=>
  simp only[cellsOf,zj]at hc;subst hc;have h':=h;simp only[Den]at h;obtain⟨e,_,rfl⟩:=h;simp only[Value.cells,w6];exact⟨⟨_,[],rfl,h',rfl⟩,by simp[Value.oneCell']⟩
 |fn f a b=>
  simp only[cellsOf,zj]at hc;subst hc;have h':=h;simp only[Den]at h;obtain⟨us,vs,rfl,_⟩:=h;simp only[Value.cells,w6];exact⟨⟨_,[],rfl,h',rfl⟩,by simp[Value.oneCell']⟩
end
def UR:Sh->Bool
 | .struct _| .array _ _=>true
 |_=>false
theorem DN{P:Program}{T:kE}(hT:qa P T){t:TypeId}(h:T.sh t≠ .other)(w:World):
 (isAgg t).run P w= .ok (UR (T.sh t)) w:=by
 obtain⟨d,h1,h2⟩:=hT.jk t h;simp only[isAgg,Sem.run_bind,Z8 h1,Result.andThen_ok];cases hs:T.sh t<;>rw[hs]at h2<;>simp only[jg]at h2
 case array=>obtain⟨rfl,_⟩:=h2;rfl
 case struct=>obtain⟨fs,rfl,_⟩:=h2;rfl
 case iface=>obtain⟨ms,rfl⟩:=h2;rfl
 case func=>obtain⟨a,b,c,rfl⟩:=h2;rfl
 case plain=>cases d<;>first|exact h2.elim|rfl
 case other=>exact(h hs).elim
 all_goals (subst h2;rfl)
def cU(K:Env)(row:List SV)(us:List Value)(off:Nat):Prop:=∀(j:Nat) (sv:SV),row[j]?=some sv->∃u,us[off+j]?=some u/\Den K sv u
theorem cU.take{K:Env}{row:List SV}{us:List Value}{off n:Nat}(h:cU K row us off)(hn:n<=row.length):w6 K (row.take n) ((us.drop off).take n):=by
 refine DM ?_ ?_
 .cases n with
  |zero=>simp
  |succ n=>
   obtain⟨u,hu,_⟩:=h n _ (z1 (by omega));have:=(zf.1 hu).1;simp;omega
 .intro i c hc;rw[zQ]at hc;split at hc
  .obtain⟨u,hu,hd⟩:=h i c hc;refine⟨u,?_,hd⟩;rw[zQ,zh ‹_›,y8];exact hu
  cases hc
theorem cU.bK{K:Env}{row:List SV}{us:List Value}(h:w6 K row us)(off:Nat):cU K (row.drop off) us off:=by
 intro j sv hj;rw[y8]at hj;exact Xx h hj
theorem DP{P:Program}{T:kE}(hT:qa P T){K:Env}{t:TypeId}{off az:Nat}{row:List SV}{us:List Value}{v:SV}{O:w9}{nx:Nat}{O':w9}{w8:Nat}(w:World)(hd:cU K (row.drop az) us off)(h1:∀u∈us,u.oneCell'=true)
 (hr:(oy T t az row).ok O nx v O' w8):O'=O/\w8=nx/\∃u,(part t ⟨us⟩ off).run P w= .ok u w/\Den K v u:=by
 unfold oy at hr;cases ht:pU (T.size t) (row.drop az)with
 |none=>rw[ht]at hr;exact hr.elim
 |some cs=>
  rw[ht]at hr;simp only at hr;obtain⟨rfl,hlen⟩:=U9 ht;have bg:=hd.take hlen;cases ho:YH T t ((row.drop az).take (T.size t))with
  |none=>rw[ho]at hr;exact hr.elim
  |some sv=>
   rw[ho]at hr;obtain⟨rfl,rfl,rfl⟩:=hr
   have hsh:T.sh t≠ .other:=by
    intro e;simp only[YH,e]at ho;cases ho
   obtain⟨i,hi,hsz,_⟩:=hT.info t hsh;refine⟨rfl,rfl,?_⟩;have ag:=DN hT hsh w
   have agg:(UR (T.sh t))=true->v= .agg ((row.drop az).take (T.size t))->∃u,(part t ⟨us⟩ off).run P w= .ok u w/\Den K v u:=by
    rintro hb rfl;rw[hb]at ag;refine⟨.agg ⟨(us.drop off).take (T.size t)⟩,?_,?_⟩;simp[part,ag,Zv hi,hsz,List.extract_eq_take_drop]
    .simp only[Den];exact⟨(us.drop off).take (T.size t),rfl,bg,fun u hu=>h1 u (vG (uf hu))⟩
   have one:(UR (T.sh t))=false->(row.drop az).take (T.size t)=[v]->∃u,(part t ⟨us⟩ off).run P w= .ok u w/\Den K v u:=by
    intro hb hs;rw[hb]at ag;rw[hs]at bg;obtain⟨u,hu,cO⟩:=Xx (i:=0) bg rfl;rw[zQ]at hu;split at hu
    .simp at hu;exact⟨u,by simp[part,ag,hu],cO⟩
    cases hu
   cases hs:T.sh t<;>rw[hs]at agg one<;>simp only[YH,hs]at ho
   case struct=>simp only[zj]at ho;exact agg rfl ho.symm
   case array=>simp only[zj]at ho;exact agg rfl ho.symm
   case other=>cases ho
   all_goals
    split at ho
    .rename_i c hc;simp only[zj]at ho;subst ho;exact one rfl hc
    cases ho
theorem ZgN{P:Program}{T:kE}(hT:qa P T){K:Env}{t:TypeId}{off:Nat}{row:List SV}{us:List Value}{v:SV}{O:w9}{nx:Nat}{O':w9}{w8:Nat}(w:World)(hd:w6 K row us)(h1:∀u∈us,u.oneCell'=true)
 (hr:(oy T t off row).ok O nx v O' w8):O'=O/\w8=nx/\∃u,(part t ⟨us⟩ off).run P w= .ok u w/\Den K v u:=
 DP hT w (cU.bK hd off) h1 hr
section
variable {M:Mx}{K:Env}{w:World}{O:w9}{nx:Nat}{ρ:Operand->Value}{lk:Operand->Option SV}{v:SV}{O':w9}{w8:Nat}{dst:Option Tmp}{ty:TypeId}{pos:String}{af:Array Edge}{gd:Option (Nat×Bool)}
theorem ZkZ(A:At M K w O nx ρ lk)(x:Operand)(hr:(qH M.C lk O nx (.move x)).ok O nx v O' w8):Y9 M K w ⟨dst, .move x,ty,pos,af,gd⟩ ρ v O' w8:=by
 simp only[qH,Ho]at hr;cases hx:lk x with
 |none=>rw[hx]at hr;exact hr.elim
 |some u=>rw[hx]at hr;exact A.val hr ⟨ρ x, .inl rfl,A.L x _ hx⟩
theorem ZgO(A:At M K w O nx ρ lk)(x:Operand)(hr:(qH M.C lk O nx (.assign x)).ok O nx v O' w8):Y9 M K w ⟨dst, .assign x,ty,pos,af,gd⟩ ρ v O' w8:=by
 simp only[qH,Ho]at hr;cases hx:lk x with
 |none=>rw[hx]at hr;exact hr.elim
 |some u=>rw[hx]at hr;exact A.val hr ⟨ρ x, .inl rfl,A.L x _ hx⟩
theorem Zl0(A:At M K w O nx ρ lk)(c a b:Operand)(hr:(qH M.C lk O nx (.pick c a b)).ok O nx v O' w8):Y9 M K w ⟨dst, .pick c a b,ty,pos,af,gd⟩ ρ v O' w8:=by
 simp only[qH,Pj]at hr;split at hr
 .rename_i x hc;split at hr
  .rename_i p q ha hb;refine A.val hr ⟨.bool (bif x then p else q), .inl ?_,rfl⟩;have h1:=X3 (A.L _ _ hc);have h2:=X3 (A.L _ _ ha);have h3:=X3 (A.L _ _ hb);cases x<;>simp[execOp,h1,h2,h3,asBool]
  .rename_i p ha hb;obtain⟨hx,hr⟩:=hr;subst hx;refine A.val hr ⟨.bool p, .inl ?_,rfl⟩;have h1:=X3 (A.L _ _ hc);have h2:=X3 (A.L _ _ ha);simp[execOp,h1,h2,asBool]
  .rename_i p ha hb;obtain⟨hx,hr⟩:=hr;subst hx;refine A.val hr ⟨.bool p, .inl ?_,rfl⟩;have h1:=X3 (A.L _ _ hc);have h2:=X3 (A.L _ _ hb);simp[execOp,h1,h2,asBool]
  exact hr.elim
 exact hr.elim
theorem Zee(A:At M K w O nx ρ lk)(x:Operand)(i:Nat)(hr:(qH M.C lk O nx (.extract x i)).ok O nx v O' w8):Y9 M K w ⟨dst, .extract x i,ty,pos,af,gd⟩ ρ v O' w8:=by
 simp only[qH,PE]at hr;split at hr
 .rename_i vs hx;split at hr
  .rename_i z hz;have h1:=A.L _ _ hx;simp only[Den]at h1;obtain⟨us,h1,h2⟩:=h1;rw[VV]at hz;obtain⟨u,h3,h4⟩:=Xx h2 hz;refine A.val hr ⟨u, .inl ?_,h4⟩;simp[execOp,h1,Instr.extract,h3]
  exact hr.elim
 exact hr.elim
theorem Zj9(A:At M K w O nx ρ lk)(t:TypeId)(x:Operand)(f:Nat)(hr:(qH M.C lk O nx (.field t x f)).ok O nx v O' w8):Y9 M K w ⟨dst, .field t x f,ty,pos,af,gd⟩ ρ v O' w8:=by
 simp only[qH,Pz]at hr;split at hr
 .rename_i cs hx;have h1:=A.L _ _ hx;simp only[Den]at h1;obtain⟨us,h1,h2,h3⟩:=h1;split at hr
  case h_2=>exact hr.elim
  rename_i off u hf;unfold Hg at hf;split at hf
  .rename_i fs hs;obtain⟨d,hd,qW⟩:=A.T.jk t (by rw[hs];simp);rw[hs]at qW;simp only[jg]at qW;obtain⟨fields,rfl,K4,_⟩:=qW;rw[VV,<-K4,z6]at hf;cases hq:fields.toList[f]? with
   |none=>rw[hq]at hf;cases hf
   |some fd=>
    rw[hq]at hf;simp only[Option.map_some,zj,yF]at hf;obtain⟨rfl,rfl⟩:=hf;obtain⟨e1,e2,z,h4,h5⟩:=ZgN A.T w h2 h3 hr;refine A.same (.inl ?_) h5 e1 e2;have td:fields[f]?=some fd:=by simpa using hq
    simp[execOp,h1,Instr.field,Z8 hd,td,asAgg,h4]
  cases hf
 exact hr.elim
theorem ZcF(A:At M K w O nx ρ lk)(x:Operand)(hr:(qH M.C lk O nx (.nilCheck x)).ok O nx v O' w8):Y9 M K w ⟨dst, .nilCheck x,ty,pos,af,gd⟩ ρ v O' w8:=by
 simp only[qH,Pp]at hr;split at hr
 .rename_i b r es c hx;have h1:=A.L _ _ hx;refine A.val hr ⟨ρ x, .inl ?_,h1⟩;simp only[Den]at h1;obtain⟨e,_,h2⟩:=h1;simp[execOp,h2]
 exact hr.elim
theorem Zl1(A:At M K w O nx ρ lk)(op:UnOp)(t:TypeId)(x:Operand)(hr:(qH M.C lk O nx (.unOp op t x)).ok O nx v O' w8):Y9 M K w ⟨dst, .unOp op t x,ty,pos,af,gd⟩ ρ v O' w8:=by
 simp only[qH,Pq]at hr;split at hr
 .split at hr
  .rename_i b hx;have h1:=X3 (A.L _ _ hx);exact A.val hr ⟨.bool (!b), .inl (by simp[execOp,h1,Op.unary]),rfl⟩
  exact hr.elim
 .split at hr
  .rename_i k n hx;have h1:=V4 (A.L _ _ hx);exact A.val hr ⟨.int k (k.wrap (0-n)), .inl (by simp[execOp,h1,Op.unary,Op.intArith]),rfl⟩
  exact hr.elim
 .split at hr
  .rename_i k n hx;have h1:=V4 (A.L _ _ hx);refine A.val hr ⟨.int k (ox k (bif k.signed then-1 else k.max) n), .inl ?_,rfl⟩;cases hk:k.signed<;>simp[execOp,h1,Op.unary,Op.intBits,ox,hk]
  exact hr.elim
 exact hr.elim
theorem Z3M(A:At M K w O nx ρ lk)(t:TypeId)(x:Operand)(hr:(qH M.C lk O nx (.makeInterface t x)).ok O nx v O' w8):Y9 M K w ⟨dst, .makeInterface t x,ty,pos,af,gd⟩ ρ v O' w8:=by
 simp only[qH,Pu]at hr;split at hr
 exact hr.elim;exact hr.elim
 .rename_i sh hi ho;split at hr
  case h_2=>exact hr.elim
  rename_i u hx;refine A.val hr ⟨.iface t (ρ x), .inl ?_,?_⟩
  .obtain⟨d,h1,h2⟩:=A.T.jk t ho
   have:(Instr.makeInterface t (ρ x)).run M.P w= .ok (.iface t (ρ x)) w:=by
    simp only[Instr.makeInterface,Sem.run_bind,Z8 h1,Result.andThen_ok];cases d with
    |interface ms=>
     exfalso;cases hs:M.C.T.sh t<;>rw[hs]at h2<;>simp only[jg]at h2<;>simp_all
    |_=>rfl
   simp[execOp,this]
  simp only[Den];exact⟨_,rfl,A.L _ _ hx⟩
theorem DQ{xs:List Operand}{cV:List SV}(hl:∀x sv,lk x=some sv->Den K sv (ρ x))(h:kX lk xs=some cV):w6 K cV (xs.map ρ):=by
 induction xs generalizing cV with
 |nil=>simp only[kX,zj]at h;subst h;simp[w6]
 |cons x xs ih=>
  simp only[kX]at h;split at h
  .rename_i y hy;split at h
   .rename_i ys hys;simp only[zj]at h;subst h;simp only[zI,w6];exact⟨_,_,rfl,hl _ _ hy,ih hys⟩
   cases h
  cases h
theorem ZcG(A:At M K w O nx ρ lk)(f:Fn)(a b:Array Operand)(hr:(qH M.C lk O nx (.makeFunc f a b)).ok O nx v O' w8):Y9 M K w ⟨dst, .makeFunc f a b,ty,pos,af,gd⟩ ρ v O' w8:=by
 simp only[qH,Pv]at hr;split at hr
 .rename_i xs h1;split at hr
  case h_2=>exact hr.elim
  rename_i ys h2;refine A.val hr ⟨.func f (a.map ρ) (b.map ρ), .inl rfl,?_⟩;simp only[Den];exact⟨a.toList.map ρ,b.toList.map ρ,by congr 1<;>(apply yC;simp),DQ A.L h1,DQ A.L h2⟩
 exact hr.elim
end
theorem Zef{z:Value}(h:z.oneCell'=true):z.cells= #[z]:=by cases z<;>first|rfl|(simp[Value.oneCell']at h)
section
variable {K:Env}
theorem V5{es:Nat}:∀{n:Nat} {cs:List SV} {rs:List (List SV)},JS es n cs=some rs->rs.length=n/\cs.length=n*es/\∀(i:Nat) (row:List SV),rs[i]?=some row->row.length=es/\row=(cs.drop (i*es)).take es
 |0,[],rs,h=>by simp only[JS,zj]at h;subst h;simp
 |0,c::cs,rs,h=>by simp[JS]at h
 |n+1,cs,rs,h=>by
  simp only[JS]at h;cases h1:pU es cs with
  |none=>rw[h1]at h;cases h
  |some r=>
   rw[h1]at h;simp only at h;cases h2:JS es n (cs.drop es)with
   |none=>rw[h2]at h;cases h
   |some q=>
    rw[h2]at h;simp only[zj]at h;subst h;obtain⟨rfl,hl⟩:=U9 h1;obtain⟨h3,h4,h5⟩:=V5 h2;refine⟨by simp[h3],?_,?_⟩
    .rw[zF]at h4;rw[yB];omega
    .intro i row hi;cases i with
     |zero=>simp at hi;subst hi;simp[yQ hl]
     |succ i=>
      simp at hi;obtain⟨h6,h7⟩:=h5 i row hi;refine⟨h6,?_⟩;rw[h7,yt];congr 2;rw[yB];omega
theorem DR{es:Nat}:∀{rs:List (List SV)} {vs:List Value} {i:Nat} {row:List SV},wI K es rs vs->rs[i]?=some row->cU K row vs (i*es)/\row.length=es
 | [],vs,i,row,h,hi=>by simp at hi
 |r::rs,vs,i,row,h,hi=>by
  simp only[wI]at h;obtain⟨us,ws,rfl,hl,h1,h2⟩:=h;cases i with
  |zero=>
   simp at hi;subst hi;refine⟨fun j sv hj=>?_,by rw[<-ZU h1,hl]⟩;obtain⟨u,hu,hd⟩:=Xx h1 hj;refine⟨u,?_,hd⟩;rw[yT,zy,zn (zf.1 hu).1];exact hu
  |succ i=>
   simp at hi;obtain⟨h3,h4⟩:=DR h2 hi;refine⟨fun j sv hj=>?_,h4⟩;obtain⟨u,hu,hd⟩:=h3 j sv hj;refine⟨u,?_,hd⟩;rw[zx (by rw[yB];omega),hl];rw[show(i+1)*es+j-es=i*es+j by rw[yB];omega];exact hu
theorem V6{es:Nat}:∀{rs:List (List SV)} {vs:List Value},wI K es rs vs->vs.length=rs.length*es
 | [],vs,h=>by simp only[wI]at h;subst h;simp
 |r::rs,vs,h=>by
  simp only[wI]at h;obtain⟨us,ws,rfl,hl,h1,h2⟩:=h;rw[zg,hl,V6 h2,List.length_cons,yB];omega
theorem Z9V{es n:Nat}{cs:List SV}{rs:List (List SV)}{vs:List Value}(h:JS es n cs=some rs)(hd:w6 K cs vs){i:Nat}{row:List SV}(hi:rs[i]?=some row):cU K row vs (i*es):=by
 obtain⟨h1,h2,h3⟩:=V5 h;obtain⟨h4,h5⟩:=h3 i row hi;intro j sv hj;rw[h5,zQ]at hj;split at hj
 rw[y8]at hj;exact Xx hd hj;cases hj
theorem DT{es n:Nat}{cs:List SV}{rs:List (List SV)}{vs:List Value}(h:JS es n cs=some rs)(hd:w6 K cs vs):wI K es rs vs:=by
 induction n generalizing cs rs vs with
 |zero=>
  cases cs with
  |nil=>simp only[JS,zj]at h;subst h;simpa[wI,w6]using hd
  |cons c cs=>simp[JS]at h
 |succ n ih=>
  simp only[JS]at h;cases h1:pU es cs with
  |none=>rw[h1]at h;cases h
  |some r=>
   rw[h1]at h;simp only at h;cases h2:JS es n (cs.drop es)with
   |none=>rw[h2]at h;cases h
   |some q=>
    rw[h2]at h;simp only[zj]at h;subst h;obtain⟨rfl,hl⟩:=U9 h1;have hv:=ZU hd;simp only[wI];exact⟨vs.take es,vs.drop es,(yM es vs).symm,by rw[zu,hv];omega,DL hd,ih h2 (DK hd)⟩
theorem DU{P:Program}{T:kE}(hT:qa P T){t:TypeId}{sv:SV}(hs:T.sh t≠ .other)(hz:T.zero t≠ [])(ho:YH T t (T.zero t)=some sv)(K:Env):∃i z,P.info? t=some i/\i.zero=some z/\Den K sv z:=by
 obtain⟨i,z,h1,h2,h3,h4,h5,h6,h7,h8⟩:=hT.zero t hs hz;refine⟨i,z,h1,h2,?_⟩;have h3:=w6.mono (η':=K) xD h3
 have agg:((∃fs,T.sh t= .struct fs)\/(∃n e,T.sh t= .array n e))->sv= .agg (T.zero t)->Den K sv z:=by
  rintro hh rfl;rw[h7 hh];simp only[Den];exact⟨z.cells.toList,by simp,h3,h4⟩
 have one:¬((∃fs,T.sh t= .struct fs)\/(∃n e,T.sh t= .array n e))->T.zero t=[sv]->Den K sv z:=by
  intro hh hq;have:=h8 hh;have hv:z.cells= #[z]:=Zef this;rw[hq,hv]at h3;simp only[w6]at h3;obtain⟨u,us,he,hd,_⟩:=h3;simp at he;rw[he.1];exact hd
 cases hh:T.sh t<;>rw[hh]at agg one<;>simp only[YH,hh]at ho
 case struct=>simp only[zj]at ho;exact agg (.inl ⟨_,rfl⟩) ho.symm
 case array=>simp only[zj]at ho;exact agg (.inr ⟨_,_,rfl⟩) ho.symm
 case other=>cases ho
 all_goals
  split at ho
  .rename_i c hc;simp only[zj]at ho;subst ho;exact one (by simp) hc
  cases ho
end
section
variable {M:Mx}{K:Env}{w:World}{O:w9}{nx:Nat}{ρ:Operand->Value}{lk:Operand->Option SV}{v:SV}{O':w9}{w8:Nat}{dst:Option Tmp}{ty:TypeId}{pos:String}{af:Array Edge}{gd:Option (Nat×Bool)}
theorem Zja(A:At M K w O nx ρ lk)(t:TypeId)(x i:Operand)(hr:(qH M.C lk O nx (.index t x i)).ok O nx v O' w8):Y9 M K w ⟨dst, .index t x i,ty,pos,af,gd⟩ ρ v O' w8:=by
 simp only[qH,PB]at hr;split at hr
 case h_2=>exact hr.elim
 rename_i k n hi;have hiv:=V4 (A.L _ _ hi);split at hr
 .rename_i hs;obtain⟨d,hd,hm⟩:=A.T.jk t (by rw[hs];simp);rw[hs]at hm;simp only[jg]at hm;subst hm;split at hr
  case h_2=>exact hr.elim
  rename_i s hx;have wU:=tc (A.L _ _ hx);obtain⟨⟨h0,h1⟩,h2⟩:=hr;refine A.val h2 ⟨.int .u8 (Z1 s n), .inl ?_,rfl⟩;have hlt:n.toNat<s.length:=by omega
  have hg:(ByteArray.mk s.toArray)[n.toNat]?=some s[n.toNat]:=by
   show(if h:_ then _ else _)=_
   rw[yg (show n.toNat< (ByteArray.mk s.toArray).size by simpa[ByteArray.size]using hlt)]
   rfl
  simp[execOp,wU,hiv,Instr.index,asIntOf,Z8 hd,h0,hg,Z1,hlt]
 .rename_i m e hs;obtain⟨d,hd,hm⟩:=A.T.jk t (by rw[hs];simp);rw[hs]at hm;simp only[jg]at hm;obtain⟨rfl,hsz,dJ⟩:=hm;obtain⟨ie,hie,qw,_⟩:=A.T.info e dJ;split at hr
  .rename_i cs hx;have wU:=A.L _ _ hx;simp only[Den]at wU;obtain⟨us,wU,hdl,h1⟩:=wU;split at hr
   case h_2=>exact hr.elim
   rename_i rs hch;obtain⟨⟨h0,hlt⟩,row,hrow,hr⟩:=hr;have hf:=Z9V hch hdl hrow;obtain⟨e1,e2,u,hu,cO⟩:=DP A.T w (az:=0) (by simpa using hf) h1 hr;refine A.same (.inl ?_) cO e1 e2;simp[execOp,wU,hiv,Instr.index,asIntOf,Z8 hd,h0,hlt,Zv hie,qw,hu]
  .rename_i es rs hx;have wU:=A.L _ _ hx;simp only[Den]at wU;obtain⟨us,wU,hdl,h1⟩:=wU;split at hr
   case h_2=>exact hr.elim
   rename_i qX;have qX:=Zs qX;subst qX;obtain⟨⟨h0,hlt,hlen⟩,row,hrow,hr⟩:=hr;have hf:=(DR hdl hrow).1;obtain⟨e1,e2,u,hu,cO⟩:=DP A.T w (az:=0) (by simpa using hf) h1 hr;refine A.same (.inl ?_) cO e1 e2;simp[execOp,wU,hiv,Instr.index,asIntOf,Z8 hd,h0,hlt,Zv hie,qw,hu]
  exact hr.elim
 exact hr.elim
theorem Z9W(A:At M K w O nx ρ lk)(t:TypeId)(x i:Operand)(hr:(qH M.C lk O nx (.indexAddr t x i)).ok O nx v O' w8):Y9 M K w ⟨dst, .indexAddr t x i,ty,pos,af,gd⟩ ρ v O' w8:=by
 simp only[qH,PA]at hr;split at hr
 case h_2=>exact hr.elim
 rename_i k n hi;have hiv:=V4 (A.L _ _ hi);split at hr
 .rename_i m e hs;obtain⟨d,hd,hm⟩:=A.T.jk t (by rw[hs];simp);rw[hs]at hm;simp only[jg]at hm;obtain⟨rfl,hsz,dJ⟩:=hm;obtain⟨ie,hie,qw,_⟩:=A.T.info e dJ;split at hr
  case h_2=>exact hr.elim
  rename_i b r es c hx;have wU:=A.L _ _ hx;simp only[Den]at wU;obtain⟨en,hb,wU⟩:=wU;split at hr
  .rename_i qX;have qX:=Zs qX;subst qX;obtain⟨⟨rfl,rfl,h0,hlt⟩,h2⟩:=hr;refine A.val h2 ⟨.pointer (some ⟨en.g,en.base+n.toNat*M.C.T.size e,none⟩), .inl ?_,?_⟩
   .have:(⟨en.g,en.base,none⟩:Addr).add (n.toNat*M.C.T.size e)=⟨en.g,en.base+n.toNat*M.C.T.size e,none⟩:=Addr.add_lit _ _ _;simp[execOp,wU,hiv,Instr.indexAt,asIntOf,Instr.sureAddr,Z8 hd,h0,hlt,Zv hie,qw,this]
   simp only[Den];exact⟨en,hb,by simp⟩
  .split at hr
   .obtain⟨⟨rfl,_,h0,hlt⟩,h2⟩:=hr;refine A.val h2 ⟨.pointer (some ⟨en.g,en.base+n.toNat*M.C.T.size e,none⟩), .inl ?_,?_⟩
    .have:(⟨en.g,en.base,none⟩:Addr).add (n.toNat*M.C.T.size e)=⟨en.g,en.base+n.toNat*M.C.T.size e,none⟩:=Addr.add_lit _ _ _;simp[execOp,wU,hiv,Instr.indexAt,asIntOf,Instr.sureAddr,Z8 hd,h0,hlt,Zv hie,qw,this]
    simp only[Den];exact⟨en,hb,by simp⟩
   .rename_i c';obtain⟨⟨h0,hlt⟩,h2⟩:=hr;refine A.val h2 ⟨.pointer (some ⟨en.g,en.base+(r*es+(c'+1))+n.toNat*M.C.T.size e,none⟩), .inl ?_,?_⟩
    .have:(⟨en.g,en.base+(r*es+(c'+1)),none⟩:Addr).add (n.toNat*M.C.T.size e)=⟨en.g,en.base+(r*es+(c'+1))+n.toNat*M.C.T.size e,none⟩:=Addr.add_lit _ _ _;simp[execOp,wU,hiv,Instr.indexAt,asIntOf,Instr.sureAddr,Z8 hd,h0,hlt,Zv hie,qw,this]
    simp only[Den];exact⟨en,hb,by simp only[xw]⟩
 .rename_i e hs;obtain⟨d,hd,hm⟩:=A.T.jk t (by rw[hs];simp);rw[hs]at hm;simp only[jg]at hm;subst hm;split at hr
  case h_2=>exact hr.elim
  rename_i b r es len lim hx;have wU:=A.L _ _ hx;simp only[Den]at wU;split at hr
  case h_2=>exact hr.elim
  rename_i qX hok;have qX:=Zs qX;subst qX;have dJ:M.C.T.sh e≠ .other:=by intro h;simp[jo,h]at hok
  obtain⟨ie,hie,qw,_⟩:=A.T.info e dJ;obtain⟨⟨h0,hlt⟩,h2⟩:=hr;rcases wU with⟨_,_,h⟩|⟨en,o,hb,wU,h3,h4,h5⟩
  subst h;omega;refine A.val h2 ⟨.pointer (some ⟨en.g,en.base+(r+n.toNat)*M.C.T.size e,none⟩), .inl ?_,?_⟩
  .have ho:=h5 (by omega)
   have:(⟨en.g,o,none⟩:Addr).add (n.toNat*M.C.T.size e)=⟨en.g,en.base+(r+n.toNat)*M.C.T.size e,none⟩:=by
    rw[Addr.add_lit,ho,xM];congr 1;omega
   simp[execOp,wU,hiv,Instr.indexAt,asIntOf,Z8 hd,h0,hlt,Zv hie,qw,this]
  simp only[Den];exact⟨en,hb,by simp⟩
 exact hr.elim
theorem Z9X(A:At M K w O nx ρ lk)(t:TypeId)(x:Operand)(f:Nat)(hr:(qH M.C lk O nx (.fieldAddr t x f)).ok O nx v O' w8):Y9 M K w ⟨dst, .fieldAddr t x f,ty,pos,af,gd⟩ ρ v O' w8:=by
 simp only[qH,Py]at hr;split at hr
 case h_2=>exact hr.elim
 rename_i b r es c hx;have wU:=A.L _ _ hx;simp only[Den]at wU;obtain⟨en,hb,wU⟩:=wU;split at hr
 case h_2=>exact hr.elim
 rename_i off u hf;unfold Hg at hf;split at hf
 case h_2=>cases hf
 rename_i fs hs;obtain⟨d,hd,qW⟩:=A.T.jk t (by rw[hs];simp);rw[hs]at qW;simp only[jg]at qW;obtain⟨fields,rfl,K4,hok⟩:=qW;have hmem:(off,u)∈fs:=by rw[VV]at hf;exact zU hf
 have hou:=hok _ hmem;obtain⟨iu,hiu,DV,_⟩:=A.T.info u hou;rw[VV,<-K4,z6]at hf;cases hq:fields.toList[f]? with
 |none=>rw[hq]at hf;cases hf
 |some fd=>
  rw[hq]at hf;simp only[Option.map_some,zj,yF]at hf;obtain⟨rfl,rfl⟩:=hf;split at hr
  exact hr.elim;rename_i hz;have hz:=JA hz;refine A.val hr ⟨.pointer (some ⟨en.g,en.base+(r*es+(c+fd.offset)),none⟩), .inl ?_,?_⟩
  .have td:fields[f]?=some fd:=by simpa using hq
   have:(⟨en.g,en.base+(r*es+c),none⟩:Addr).add fd.offset=⟨en.g,en.base+(r*es+(c+fd.offset)),none⟩:=by
    rw[Addr.add_lit];congr 1;omega
   simp[execOp,wU,Instr.fieldAt,Instr.sureAddr,Z8 hd,td,fieldPlace,Zv hiu,DV,hz,this]
  simp only[Den];exact⟨en,hb,rfl⟩
theorem ZgP(A:At M K w O nx ρ lk)(x:Operand)(t u:TypeId)(ok:Bool)(hr:(qH M.C lk O nx (.typeAssert x t u ok)).ok O nx v O' w8):Y9 M K w ⟨dst, .typeAssert x t u ok,ty,pos,af,gd⟩ ρ v O' w8:=by
 simp only[qH,PF]at hr;split at hr
 exact hr.elim;exact hr.elim;rename_i sh hni hno;obtain⟨d,hd,hm⟩:=A.T.jk u hno
 have hnd:∀ms,d≠ .interface ms:=by
  rintro ms rfl;cases hs:M.C.T.sh u<;>rw[hs]at hm<;>simp only[jg]at hm<;>simp_all
 have zt:∀{v},(Hs M.C.T u).ok O nx v O' w8->ok=true->O'=O/\w8=nx/\∃z,(zeroValue u).run M.P w= .ok z w/\Den K v (.tuple #[z, .bool false]):=by
  intro v hr _;unfold Hs at hr;cases hz:M.C.T.zero u with
  |nil=>rw[hz]at hr;exact hr.elim
  |cons c cs=>
   rw[hz]at hr;simp only at hr;cases ho:YH M.C.T u (c::cs)with
   |none=>rw[ho]at hr;exact hr.elim
   |some sv=>
    rw[ho]at hr;obtain⟨rfl,rfl,rfl⟩:=hr;obtain⟨i,z,h1,h2,h3⟩:=DU A.T hno (by rw[hz];simp) (by rw[hz];exact ho) K;exact⟨rfl,rfl,z,Jo h1 h2 w,by simp only[Den,w6];exact⟨_,rfl,z,_,rfl,h3,_,_,rfl,rfl,rfl⟩⟩
 split at hr
 .rename_i q y hx;have wU:=A.L _ _ hx;simp only[Den]at wU;obtain⟨z,wU,hz⟩:=wU
  have run:(Instr.typeAssert (.iface q z) t u ok).run M.P w=if q=u then .ok (if ok then .tuple #[z, .bool true]else z) w else(if ok then((zeroValue u).run M.P w).andThen fun a w=> .ok (.tuple #[a, .bool false]) w else(runtimePanic (.typeAssertion (some t) (some q) u ""):Sem Value).run M.P w):=by
   simp only[Instr.typeAssert,Sem.run_bind,Z8 hd,Result.andThen_ok];cases d<;>first|(exact absurd rfl (hnd _))|(cases ok<;>by_cases e:q=u<;>simp[e])
  split at hr
  .rename_i he;have he:=Zs he;subst he;split at hr
   .refine A.val hr ⟨.tuple #[z, .bool true], .inl ?_,?_⟩;simp[execOp,wU,run];simp only[Den,w6];exact⟨_,rfl,z,_,rfl,hz,_,_,rfl,rfl,rfl⟩
   .refine A.val hr ⟨z, .inl ?_,hz⟩;simp[execOp,wU,run]
  .rename_i he;have he:=JA he;split at hr
   .obtain⟨e1,e2,a,h1,h2⟩:=zt hr rfl;refine A.same (.inl ?_) h2 e1 e2;simp[execOp,wU,run,he,h1]
   exact hr.elim
 .rename_i hx;have wU:=A.L _ _ hx;simp only[Den]at wU;obtain⟨wU,_⟩:=wU;split at hr
  .obtain⟨e1,e2,a,h1,h2⟩:=zt hr rfl;refine A.same (.inl ?_) h2 e1 e2
   have:(Instr.typeAssert .nilIface t u true).run M.P w= .ok (.tuple #[a, .bool false]) w:=by
    simp only[Instr.typeAssert,Sem.run_bind,Z8 hd,Result.andThen_ok];cases d<;>first|(exact absurd rfl (hnd _))|simp[h1]
   simp[execOp,wU,this]
  exact hr.elim
 exact hr.elim
end
theorem Ua(s:List UInt8)(a b:Nat):(ByteArray.mk s.toArray).extract a b=⟨((s.drop a).take (b-a)).toArray⟩:=by
 apply uR;simp[List.extract_eq_take_drop]
theorem VW(s:List UInt8):(ByteArray.mk s.toArray).size=s.length:=by simp[ByteArray.size]
section
variable {M:Mx}{K:Env}{w:World}{O:w9}{nx:Nat}{ρ:Operand->Value}{lk:Operand->Option SV}{v:SV}{O':w9}{w8:Nat}{dst:Option Tmp}{ty:TypeId}{pos:String}{af:Array Edge}{gd:Option (Nat×Bool)}
theorem Zeg{P:Program}{T:kE}(hT:qa P T){t:TypeId}{op:BinOp}{x y:Operand}{u:SV}{wv a b:Value}{r:Bool}(d:Nat)(h:Du (T.sh t) y u wv=some r)(ha:Den K u a)(hb:b=wv)(w:World):
 (eqGuard op t x y a b).run P w= .ok () w/\(Op.equalIn (d+1) t a b).run P w= .ok r w/\(binOp .eql t a b=(do pure (.bool (<-Op.equal t a b))))/\(binOp .neq t a b=(do pure (.bool (!(<-Op.equal t a b))))):=by
 subst hb;unfold Du at h;split at h
 case h_7=>cases h
 all_goals
  rename_i hs;obtain⟨dd,hd,hm⟩:=hT.jk t (by rw[hs];simp);rw[hs]at hm;simp only[jg]at hm;simp only[zj]at h;subst h;simp only[Den]at ha
 .obtain⟨ms,rfl⟩:=hm;obtain⟨z,rfl,_⟩:=ha;refine⟨by cases op<;>simp[eqGuard],?_,rfl,rfl⟩;simp[Op.equalIn,Z8 hd]
 .obtain⟨ms,rfl⟩:=hm;obtain⟨rfl,_⟩:=ha;refine⟨by cases op<;>simp[eqGuard],?_,rfl,rfl⟩;simp[Op.equalIn,Z8 hd]
 .subst hm;obtain⟨e,_,rfl⟩:=ha;refine⟨by cases op<;>simp[eqGuard],?_,rfl,rfl⟩;simp[Op.equalIn,Z8 hd]
 .subst hm;obtain⟨rfl,_⟩:=ha;refine⟨by cases op<;>simp[eqGuard],?_,rfl,rfl⟩;simp[Op.equalIn,Z8 hd]
 .obtain⟨_,_,_,rfl⟩:=hm;obtain⟨_,_,rfl,_⟩:=ha;refine⟨by cases op<;>simp[eqGuard],?_,rfl,rfl⟩;simp[Op.equalIn,Z8 hd]
 .obtain⟨_,_,_,rfl⟩:=hm;obtain⟨rfl,_⟩:=ha;refine⟨by cases op<;>simp[eqGuard],?_,rfl,rfl⟩;simp[Op.equalIn,Z8 hd]
theorem DW(A:At M K w O nx ρ lk){op:BinOp}{t u:TypeId}{x y:Operand}{ks:List CK}(hfl:M.C.T.flat t=some ks){xs ys:List SV}{us vs:List Value}(hx:ρ x= .agg ⟨us⟩)(hy:ρ y= .agg ⟨vs⟩)(fB:w6 K xs us)(hd2:w6 K ys vs)
 (hr:(KS ks op xs ys).ok O nx v O' w8):Y9 M K w ⟨dst, .binOp op t x y u,ty,pos,af,gd⟩ ρ v O' w8:=by
 obtain⟨g1,g2⟩:=A.T.flat t ks hfl;have go:∀r,Zk ks xs ys=some r->K1 ks xs ys=r/\(Op.equalIn 10000 t (.agg ⟨us⟩) (.agg ⟨vs⟩)).run M.P w= .ok r w:=fun r hce=>⟨by simp[K1,hce],g2 w K xs ys us vs r hce fB hd2⟩;unfold KS at hr;split at hr
 .obtain⟨hn,hr⟩:=hr;obtain⟨r,hce⟩:=vR.1 hn;obtain⟨e,h⟩:=go r hce;rw[e]at hr;refine A.val hr ⟨.bool r, .inl ?_,rfl⟩;simp only[execOp,hx,hy,Sem.run_bind,run_eqGuard_agg w _ t x y ⟨us⟩ ⟨vs⟩ g1,Result.andThen_ok,run_eql_struct,h,Sem.run_pure]
 .obtain⟨hn,hr⟩:=hr;obtain⟨r,hce⟩:=vR.1 hn;obtain⟨e,h⟩:=go r hce;rw[e]at hr;refine A.val hr ⟨.bool (!r), .inl ?_,rfl⟩;simp only[execOp,hx,hy,Sem.run_bind,run_eqGuard_agg w _ t x y ⟨us⟩ ⟨vs⟩ g1,Result.andThen_ok,run_neq_struct,h,Sem.run_pure]
 exact hr.elim
theorem Zjb(A:At M K w O nx ρ lk)(op:BinOp)(t u:TypeId)(x y:Operand)(hr:(qH M.C lk O nx (.binOp op t x y u)).ok O nx v O' w8):Y9 M K w ⟨dst, .binOp op t x y u,ty,pos,af,gd⟩ ρ v O' w8:=by
 simp only[qH,KU]at hr;split at hr
 .rename_i k a hx;split at hr
  case h_2=>exact hr.elim
  rename_i k' b hy;obtain⟨e1,e2,z,h1,h2⟩:=Z83 (P:=M.P) (w:=w) ρ dst ty pos af gd t u x y k' K (V4 (A.L _ _ hx)) (V4 (A.L _ _ hy)) hr;exact A.same (.inl h1) h2 e1 e2
 .rename_i a hx;split at hr
  case h_2=>exact hr.elim
  rename_i b hy;obtain⟨e1,e2,z,h1,h2⟩:=Z84 (P:=M.P) (w:=w) ρ dst ty pos af gd t u x y K (tc (A.L _ _ hx)) (tc (A.L _ _ hy)) hr;exact A.same (.inl h1) h2 e1 e2
 .rename_i a hx;split at hr
  case h_2=>exact hr.elim
  rename_i b hy;have wU:=X3 (A.L _ _ hx);have kR:=X3 (A.L _ _ hy);split at hr
  case h_2=>exact hr.elim
  rename_i hs;obtain⟨d,hd,hm⟩:=A.T.jk t (by rw[hs];simp);rw[hs]at hm;simp only[jg]at hm;subst hm;have e1:∀d,(Op.equalIn (d+1) t (.bool a) (.bool b)).run M.P w= .ok (a==b) w:=fun d=>by simp[Op.equalIn,Z8 hd]
  have e2:=e1 9999;split at hr
  .refine A.val hr ⟨.bool (a==b), .inl ?_,rfl⟩;simp[execOp,wU,kR,eqGuard_at_bool,binOp,Op.equal,Op.maxDepth,e2]
  .refine A.val hr ⟨.bool (a !=b), .inl ?_,rfl⟩;simp[execOp,wU,kR,eqGuard_at_bool,binOp,Op.equal,Op.maxDepth,e2,bne]
  exact hr.elim
 .rename_i xs hx;have wU:=A.L _ _ hx;simp only[Den]at wU;obtain⟨us,wU,fB,_⟩:=wU;split at hr
  case h_3=>exact hr.elim
  .rename_i ys hy;split at hr
   case h_2=>exact hr.elim
   rename_i ks hfl;split at hr
   case h_2=>exact hr.elim
   rename_i r hce;have kR:=A.L _ _ hy;simp only[Den]at kR;obtain⟨vs,kR,hd2,_⟩:=kR;obtain⟨g1,g2⟩:=A.T.flat t ks hfl;have g2:=g2 w K xs ys us vs r hce fB hd2;split at hr
   .refine A.val hr ⟨.bool r, .inl ?_,rfl⟩;simp only[execOp,wU,kR,Sem.run_bind,run_eqGuard_agg w _ t x y ⟨us⟩ ⟨vs⟩ g1,Result.andThen_ok,run_eql_struct,g2,Sem.run_pure]
   .refine A.val hr ⟨.bool (!r), .inl ?_,rfl⟩;simp only[execOp,wU,kR,Sem.run_bind,run_eqGuard_agg w _ t x y ⟨us⟩ ⟨vs⟩ g1,Result.andThen_ok,run_neq_struct,g2,Sem.run_pure]
   exact hr.elim
  .rename_i es rs hy;split at hr
   case h_2=>exact hr.elim
   rename_i ks hfl;have kR:=A.L _ _ hy;simp only[Den]at kR;obtain⟨vs,kR,hd2,_⟩:=kR;exact DW A hfl wU kR fB (XI hd2) hr
 .rename_i es rs hx;have wU:=A.L _ _ hx;simp only[Den]at wU;obtain⟨us,wU,fB,_⟩:=wU;split at hr
  case h_3=>exact hr.elim
  .rename_i ys hy;split at hr
   case h_2=>exact hr.elim
   rename_i ks hfl;have kR:=A.L _ _ hy;simp only[Den]at kR;obtain⟨vs,kR,hd2,_⟩:=kR;exact DW A hfl wU kR (XI fB) hd2 hr
  .rename_i es' qs hy;split at hr
   case h_2=>exact hr.elim
   rename_i ks hfl;have kR:=A.L _ _ hy;simp only[Den]at kR;obtain⟨vs,kR,hd2,_⟩:=kR;exact DW A hfl wU kR (XI fB) (XI hd2) hr
 .rename_i b r es len lim hx;split at hr
  case h_2=>exact hr.elim
  rename_i hy;have kR:=A.L _ _ hy;simp only[Den]at kR;obtain⟨kR,_⟩:=kR;split at hr
  case h_2=>exact hr.elim
  rename_i e hs;obtain⟨d,hd,hm⟩:=A.T.jk t (by rw[hs];simp);rw[hs]at hm;simp only[jg]at hm;subst hm;have wU:=A.L _ _ hx;simp only[Den]at wU
  obtain⟨a,l,c,wU,hl⟩:∃a l c,ρ x= .slice a l c/\(a.isNone=true->len=0):=by
   rcases wU with⟨_,h,h0⟩|⟨_,_,_,h,_⟩
   exact⟨_,_,_,h,fun _=>h0⟩;exact⟨_,_,_,h,fun h=>by cases h⟩
  have e1:∀d,(Op.equalIn (d+1) t (.slice a l c) (.slice none 0 0)).run M.P w= .ok a.isNone w:=fun d=>by cases a<;>simp[Op.equalIn,Z8 hd]
  have e2:=e1 9999;split at hr
  .refine A.val hr ⟨.bool a.isNone, .inl ?_,?_⟩;simp[execOp,wU,kR,eqGuard,binOp,Op.equal,Op.maxDepth,e2];simp only[Den];exact⟨_,rfl,hl⟩
  .obtain⟨hn,hr⟩:=hr
   have:a.isNone=false:=by
    cases h:a.isNone
    rfl
    have:=hl h;omega
   refine A.val hr ⟨.bool true, .inl ?_,rfl⟩;simp[execOp,wU,kR,eqGuard,binOp,Op.equal,Op.maxDepth,e2,this]
  exact hr.elim
 .rename_i hx;split at hr
  case h_2=>exact hr.elim
  rename_i hy;have kR:=A.L _ _ hy;have wU:=A.L _ _ hx;simp only[Den]at kR wU;obtain⟨kR,_⟩:=kR;obtain⟨wU,_⟩:=wU;split at hr
  case h_2=>exact hr.elim
  rename_i e hs;obtain⟨d,hd,hm⟩:=A.T.jk t (by rw[hs];simp);rw[hs]at hm;simp only[jg]at hm;subst hm;have e1:∀d,(Op.equalIn (d+1) t (.slice none 0 0) (.slice none 0 0)).run M.P w= .ok true w:=fun d=>by simp[Op.equalIn,Z8 hd]
  have e2:=e1 9999;split at hr
  .refine A.val hr ⟨.bool true, .inl ?_,rfl⟩;simp[execOp,wU,kR,eqGuard,binOp,Op.equal,Op.maxDepth,e2]
  .refine A.val hr ⟨.bool false, .inl ?_,rfl⟩;simp[execOp,wU,kR,eqGuard,binOp,Op.equal,Op.maxDepth,e2]
  exact hr.elim
 .rename_i a hx;split at hr
  case h_2=>exact hr.elim
  rename_i wv hy;split at hr
  case h_2=>exact hr.elim
  rename_i r hne;have kR:=A.L _ _ hy;simp only[Den]at kR;obtain⟨kR,_⟩:=kR;have key:=fun op=>Zeg (op:=op) (x:=x) A.T 9999 hne (A.L _ _ hx) kR w;split at hr
  .refine A.val hr ⟨.bool r, .inl ?_,rfl⟩;obtain⟨h1,h2,h3,_⟩:=key .eql;simp[execOp,h1,h3,Op.equal,Op.maxDepth,h2]
  .refine A.val hr ⟨.bool (!r), .inl ?_,rfl⟩;obtain⟨h1,h2,_,h3⟩:=key .neq;simp[execOp,h1,h3,Op.equal,Op.maxDepth,h2]
  exact hr.elim
 exact hr.elim
theorem Zjc(A:At M K w O nx ρ lk)(t:TypeId)(x:Operand)(lo hi mx:Option Operand)(hr:(qH M.C lk O nx (.slice t x lo hi mx)).ok O nx v O' w8):Y9 M K w ⟨dst, .slice t x lo hi mx,ty,pos,af,gd⟩ ρ v O' w8:=by
 simp only[qH,Px]at hr;have hbd:∀{o:Operand} {k:IntKind} {n:Int},lk o=some (.int k n)->ρ o= .int k n:=fun h=>V4 (A.L _ _ h)
 have sb:∀(k:IntKind) (n:Int) (y:Nat) (c:BoundsCode),0<=n->n<=y->(Instr.sliceBound (.int k n) y c).run M.P w= .ok n.toNat w:=by
  intro k n y c h0 h1;simp[Instr.sliceBound,asIntOf,h0,h1]
 split at hr
 .rename_i s hx;have wU:=tc (A.L _ _ hx);split at hr
  case h_2=>exact hr.elim
  rename_i hs;obtain⟨d,hd,hm⟩:=A.T.jk t (by rw[hs];simp);rw[hs]at hm;simp only[jg]at hm;subst hm;split at hr
  case h_2=>exact hr.elim
  unfold Pb at hr;split at hr
  .rename_i hlo;cases lo with
   |some _=>simp at hlo
   |none=>
    split at hr
    .rename_i hhi;cases hi with
     |some _=>simp at hhi
     |none=>
      refine A.val hr ⟨_, .inl ?_,rfl⟩;simp[execOp,wU,Instr.sliceAt,Instr.slice,Instr.sliceBounds,Z8 hd,Ua,VW]
    .rename_i k h hhi;cases hi with
     |none=>simp at hhi
     |some oh=>
      simp only[Option.map_some,zj]at hhi;obtain⟨⟨h0,h1⟩,hr⟩:=hr;refine A.val hr ⟨_, .inl ?_,rfl⟩;have e1:=sb k h s.length .sliceAlen h0 h1;simp[execOp,wU,Instr.sliceAt,Instr.slice,Instr.sliceBounds,Z8 hd,Ua,VW,hbd hhi,e1]
    exact hr.elim
  .rename_i kl l hlo;cases lo with
   |none=>simp at hlo
   |some ol=>
    simp only[Option.map_some,zj]at hlo;split at hr
    .rename_i hhi;cases hi with
     |some _=>simp at hhi
     |none=>
      obtain⟨⟨h0,h1⟩,hr⟩:=hr;refine A.val hr ⟨_, .inl ?_,rfl⟩;have e1:=sb kl l s.length .sliceB h0 h1;have e2:(s.drop l.toNat).take (s.length-l.toNat)=s.drop l.toNat:=zi (by simp);simp[execOp,wU,Instr.sliceAt,Instr.slice,Instr.sliceBounds,Z8 hd,Ua,VW,hbd hlo,e1,e2]
    .rename_i k h hhi;cases hi with
     |none=>simp at hhi
     |some oh=>
      simp only[Option.map_some,zj]at hhi;obtain⟨⟨h0,h1,h2⟩,hr⟩:=hr;refine A.val hr ⟨_, .inl ?_,rfl⟩;have e1:=sb k h s.length .sliceAlen (by omega) h2;have e2:=sb kl l h.toNat .sliceB h0 (by omega);simp[execOp,wU,Instr.sliceAt,Instr.slice,Instr.sliceBounds,Z8 hd,Ua,VW,hbd hhi,hbd hlo,e1,e2]
    exact hr.elim
  exact hr.elim
 .rename_i b r es len lim hx;split at hr
  case h_2=>exact hr.elim
  rename_i e hs;obtain⟨d,hd,hm⟩:=A.T.jk t (by rw[hs];simp);rw[hs]at hm;simp only[jg]at hm;subst hm;split at hr
  case h_2=>exact hr.elim
  rename_i qX;have qX:=Zs qX;split at hr
  case h_2=>exact hr.elim
  rename_i hok;have dJ:M.C.T.sh e≠ .other:=by intro h;simp[jo,h]at hok
  obtain⟨ie,hie,qw,_⟩:=A.T.info e dJ;rw[<-qw]at qX;have wU:=A.L _ _ hx
  have cut:∀(l h m:Nat) (lim':Option Nat) (bs:List (Nat×Nat×Nat)),l<=h->h<=m->(∀en,K.get b=some (some en)->(lim'=lim/\m=lim.getD en.cap-r)\/(lim'=some (r+m)/\m<=lim.getD en.cap-r))->(K.get b=some none->m=0)->
   ∃u,(∀(len cap:Nat) (a:Option Addr),ρ x= .slice a len cap->u= .slice (if m=l then a else a.map (·.add (l*ie.size))) (h-l) (m-l))/\Den K (.sl b (r+l) es (h-l) lim') u:=by
   intro l h m lim' _ hlh hhm rM hnil;have mg:=wU;simp only[Den]at mg;rcases mg with⟨h1,h2,h3⟩|⟨en,o,h1,h2,h3,h4,h5⟩
   .have hm0:=hnil h1;refine⟨.slice none 0 0,?_,?_⟩
    .intro len' cap' a ha;rw[h2]at ha;injection ha with a1 a2 a3;subst a1;have:l=0:=by omega
     have:h=0:=by omega
     simp_all
    exact Or.inl ⟨h1,rfl,by omega⟩
   .refine⟨.slice (if m=l then some ⟨en.g,o,none⟩else some ((⟨en.g,o,none⟩:Addr).add (l*ie.size))) (h-l) (m-l),?_,?_⟩
    .intro len' cap' a ha;rw[h2]at ha;injection ha with a1 a2 a3;subst a1;simp
    .simp only[Den];right
     have hL:lim'.getD en.cap=r+m/\r+m<=lim.getD en.cap/\(m≠0->r<lim.getD en.cap):=by
      have hh:=rM en h1;clear rM h5 h2;obtain⟨L,lX⟩:∃L,lim.getD en.cap=L:=⟨_,rfl⟩;rw[lX]at h3 h4 hh⊢;rcases hh with⟨e1,hm⟩|⟨e1,hm⟩
      rw[e1,lX];omega;rw[e1];refine⟨rfl,?_,?_⟩<;>omega
     refine⟨en,if m=l then o else o+l*ie.size,h1,?_⟩;rw[hL.1];refine⟨?_,by omega,by omega,?_⟩
     .congr 1
      .split
       rfl
       rw[Addr.add_lit]
      omega
     .intro hlt;by_cases hml:m=l
      .rcases hlt with hlt|hlt
       omega
       .obtain⟨rfl,rfl⟩:r=0/\l=0:=by omega
        rw[zh hml,h5 (.inr rfl)]
      .have h0:r<lim.getD en.cap\/r=0:=by
        rcases hlt with hlt|hlt
        exact .inl (hL.2.2 (by omega));exact .inr (by omega)
       rw[z7 hml,h5 h0,qX,xM];omega
  obtain⟨a,cap,hv,hlc,hcap,mh⟩:∃a cap,ρ x= .slice a len cap/\len<=cap/\(∀en,K.get b=some (some en)->cap=lim.getD en.cap-r)/\reach O b r len lim<=cap/\(K.get b=some none->cap=0):=by
   have mg:=wU;simp only[Den]at mg;rcases mg with⟨h1,h2,h3⟩|⟨en,o,h1,h2,h3,h4,h5⟩
   .subst h3;refine⟨none,0,h2,zo _,(fun en h=>by rw[h1]at h;cases h),?_,fun _=>rfl⟩;unfold reach;cases lim with
    |some _=>exact zo _
    |none=>
     simp only;split
     .rename_i es' rs hO;cases b with
      |qf g=>simp[iz]at hO
      |loc i=>
       obtain⟨wA,_⟩:=A.H.own.1 i _ hO;simp only[uZ]at wA;rcases wA with⟨_,rfl⟩|⟨e',arr,T',fz,h6,_⟩
       simp;rw[h1]at h6;cases h6
     exact zo _
   .refine⟨some ⟨en.g,o,none⟩,lim.getD en.cap-r,h2,by omega,(fun e' h=>by rw[h1]at h;cases h;rfl),?_,(fun h=>by rw[h1]at h;cases h)⟩;unfold reach;cases lim with
    |some _=>simp only;omega
    |none=>
     simp only;split
     .rename_i es' rs hO;cases b with
      |qf g=>simp[iz]at hO
      |loc i=>
       obtain⟨wA,_⟩:=A.H.own.1 i _ hO;simp only[uZ]at wA;rcases wA with⟨h6,_⟩|⟨e',arr,T',fz,h6,_,h7,_⟩
       rw[h1]at h6;cases h6
       .rw[h1]at h6;cases h6;have h8:=(h7 trivial).2.2.1;simp at h3⊢;omega
     simp at h3⊢;omega
  obtain⟨mh,oW⟩:=mh;have qN:∀en,K.get b=some (some en)->(lim=lim/\cap=lim.getD en.cap-r)\/(lim=some (r+cap)/\cap<=lim.getD en.cap-r):=fun en h=> .inl ⟨rfl,hcap en h⟩;unfold Pc at hr;split at hr
  .rename_i iB;cases mx with
   |some _=>simp at iB
   |none=>
    split at hr
    .rename_i hlo;cases lo with
     |some _=>simp at hlo
     |none=>
      split at hr
      .rename_i hhi;cases hi with
       |some _=>simp at hhi
       |none=>
        refine A.val hr ⟨ρ x, .inl ?_,wU⟩;simp[execOp,hv,Instr.sliceAt,Instr.slice,Instr.sliceBounds,Z8 hd,Zv hie,Addr.add_zero']
      .rename_i k h hhi;cases hi with
       |none=>simp at hhi
       |some oh=>
        simp only[Option.map_some,zj]at hhi;obtain⟨⟨h0,h1⟩,hr⟩:=hr;obtain⟨u,hu,cO⟩:=cut 0 h.toNat cap lim [] (by omega) (by omega) qN oW;refine A.val hr ⟨u, .inl ?_,by simpa using cO⟩;have e1:=sb k h cap .sliceAcap h0 (by omega);have hu:=hu _ _ _ hv;simp[execOp,hv,Instr.sliceAt,Instr.slice,Instr.sliceBounds,Z8 hd,hbd hhi,e1,Zv hie,hu]
      exact hr.elim
    .rename_i kl l hlo;cases lo with
     |none=>simp at hlo
     |some ol=>
      simp only[Option.map_some,zj]at hlo;split at hr
      .rename_i hhi;cases hi with
       |some _=>simp at hhi
       |none=>
        obtain⟨⟨h0,h1⟩,hr⟩:=hr;obtain⟨u,hu,cO⟩:=cut l.toNat len cap lim [] (by omega) hlc qN oW;refine A.val hr ⟨u, .inl ?_,cO⟩;have e1:=sb kl l len .sliceB h0 h1;have hu:=hu _ _ _ hv;simp[execOp,hv,Instr.sliceAt,Instr.slice,Instr.sliceBounds,Z8 hd,hbd hlo,e1,Zv hie,hu]
      .rename_i k h hhi;cases hi with
       |none=>simp at hhi
       |some oh=>
        simp only[Option.map_some,zj]at hhi;obtain⟨⟨h0,h1,h2⟩,hr⟩:=hr;obtain⟨u,hu,cO⟩:=cut l.toNat h.toNat cap lim [] (by omega) (by omega) qN oW;refine A.val hr ⟨u, .inl ?_,cO⟩;have e1:=sb k h cap .sliceAcap (by omega) (by omega);have e2:=sb kl l h.toNat .sliceB h0 (by omega);have hu:=hu _ _ _ hv;simp[execOp,hv,Instr.sliceAt,Instr.slice,Instr.sliceBounds,Z8 hd,hbd hhi,hbd hlo,e1,e2,Zv hie,hu]
      exact hr.elim
    exact hr.elim
  .rename_i km m iB;cases mx with
   |none=>simp at iB
   |some om=>
    simp only[Option.map_some,zj]at iB;split at hr
    case h_2=>exact hr.elim
    rename_i hlo;cases lo with
    |some _=>simp at hlo
    |none=>
     split at hr
     case h_2=>exact hr.elim
     rename_i k h hhi;cases hi with
     |none=>simp at hhi
     |some oh=>
      simp only[Option.map_some,zj]at hhi;obtain⟨⟨h0,h1,h2⟩,hr⟩:=hr;obtain⟨u,hu,cO⟩:=cut 0 h.toNat m.toNat (some (r+m.toNat)) [] (by omega) (by omega) (fun en h=> .inr ⟨rfl,by have:=hcap en h;omega⟩) (fun h=>by have:=oW h;omega);refine A.val hr ⟨u, .inl ?_,by simpa using cO⟩;have e1:=sb k h m.toNat .slice3B h0 (by omega);have e2:=sb km m cap .slice3Acap (by omega) (by omega);have hu:=hu _ _ _ hv;simp[execOp,hv,Instr.sliceAt,Instr.slice,Instr.sliceBounds,Z8 hd,hbd hhi,hbd iB,e1,e2,Zv hie,hu]
  exact hr.elim
 .rename_i hx;split at hr
  case h_2=>exact hr.elim
  rename_i e hs;obtain⟨d,hd,hm⟩:=A.T.jk t (by rw[hs];simp);rw[hs]at hm;simp only[jg]at hm;subst hm;split at hr
  case h_2=>exact hr.elim
  rename_i hok;have dJ:M.C.T.sh e≠ .other:=by intro h;simp[jo,h]at hok
  obtain⟨ie,hie,qw,_⟩:=A.T.info e dJ;have wU:ρ x= .slice none 0 0:=(A.L _ _ hx).1;unfold Pf at hr;split at hr
  case h_1=>exact hr.elim
  rename_i iB;cases mx with
  |some _=>simp at iB
  |none=>
   split at hr
   case h_1=>exact hr.elim
   rename_i hlo;cases lo with
   |some _=>simp at hlo
   |none=>
    split at hr
    .rename_i hhi;cases hi with
     |some _=>simp at hhi
     |none=>
      refine A.val hr ⟨ρ x, .inl ?_,A.L _ _ hx⟩;simp[execOp,wU,Instr.sliceAt,Instr.slice,Instr.sliceBounds,Z8 hd,Zv hie]
    .rename_i k h hhi;cases hi with
     |none=>simp at hhi
     |some oh=>
      simp only[Option.map_some,zj]at hhi;obtain⟨rfl,hr⟩:=hr;refine A.val hr ⟨ρ x, .inl ?_,A.L _ _ hx⟩;have e1:=sb k 0 0 .sliceAcap (by omega) (by omega);simp[execOp,wU,Instr.sliceAt,Instr.slice,Instr.sliceBounds,Z8 hd,hbd hhi,e1,Zv hie]
    exact hr.elim
 exact hr.elim
end
theorem Nn{w w':World}{o:Obj}(h:w'.heap=w.heap.push o){k:Nat}(hk:k<w.heap.size):w'.heap[k]?=w.heap[k]?:=by
 rw[h,vi,z7 (by omega)]
theorem YB{w w':World}{o:Obj}(h:w'.heap=w.heap.push o):w'.heap[w.heap.size]?=some o:=by
 rw[h,vi,zh rfl]
section
variable {M:Mx}{K:Env}{w w':World}{O:w9}{nx:Nat}
theorem uY.lt(H:uY M K w O nx){i:Nat}{h:Hp}(hi:wu i O=some h):i<nx:=by
 obtain⟨x,hx,_⟩:=(H.own.1 i h hi).1.lt;rw[<-H.len];exact(zf.1 hx).1
theorem Ht.still(H:Ht M K w O)(hh:w'.heap=w.heap):Ht M K w' O:=
 ⟨fun i h hi=>⟨(H.1 i h hi).1.keep fun k _=>by rw[hh],fun k hk=>(H.1 i h hi).2 k (hk.keep fun e _=>by rw[hh])⟩,
  fun i j h h' k hi hj hij f f'=>H.2 i j h h' k hi hj hij (f.keep fun e _=>by rw[hh]) (f'.keep fun e _=>by rw[hh])⟩
theorem uY.still(H:uY M K w O nx)(hh:w'.heap=w.heap)(ho:w'.os=w.os)(ht:w'.tape=w.tape)(hp:w'.output=w.output)(eR:w.drawn<=w'.drawn):uY M K w' O nx:=
 {pre:=H.pre,len:=H.len,qN:=H.qN
  own:=H.own.still hh
  fr:=⟨ho.trans H.fr.os,ht.trans H.fr.tape,hp.trans H.fr.output,zP H.fr.drawn eR,by rw[hh];exact H.fr.size,fun k hk hF=>by rw[hh];exact H.fr.block k hk hF⟩}
theorem wq.of{K:Env}{w:World}{b:qP}{h:Hp}{k:Nat}{e:kM}(he:K.get b=some (some e))(f:wq K w b h k):e.g=k\/wZ w e.g h k:=by
 obtain⟨e',h1,h2⟩:=f;rw[he]at h1;injection h1 with h1;injection h1 with h1;subst h1;exact h2
theorem wq.none{K:Env}{w:World}{b:qP}{h:Hp}{k:Nat}(he:K.get b=some none)(f:wq K w b h k):False:=by
 obtain⟨e',h1,h2⟩:=f;rw[he]at h1;injection h1 with h1;cases h1
theorem uY.stands(H:uY M K w O nx){η':Env}(hp:K<+:η'){i:Nat}{h:Hp}(hi:wu i O=some h){w':World}(hw:∀k,wq K w (.loc i) h k->w'.heap[k]?=w.heap[k]?){k:Nat}(f:wq η' w' (.loc i) h k):wq K w (.loc i) h k:=by
 obtain⟨x,hx,_⟩:=(H.own.1 i h hi).1.lt;exact(f.less hp hx).keep fun e he=>hw _ (wq.own he)
theorem uY.push(H:uY M K w O nx)(x:Option kM){h:Hp}{w':World}(hold:∀k,k<w.heap.size->w'.heap[k]?=w.heap[k]?)(hsz:w.heap.size<=w'.heap.size)(ho:w'.os=w.os)(ht:w'.tape=w.tape)(hp:w'.output=w.output)(eR:w.drawn<=w'.drawn)
 (hs:uZ (K++ [x]) w' true (.loc nx) h) (hF:∀k,wq (K++ [x]) w' (.loc nx) h k->M.F k\/M.w0.heap.size<=k)
 (hne:∀k,wq (K++ [x]) w' (.loc nx) h k->∀(j:Nat) (g:Hp),wu j O=some g->¬wq K w (.loc j) g k):uY M (K++ [x]) w' ((nx,h)::O) (nx+1):=by
 have hpre:K<+:K++ [x]:=zC _ _;have keep:∀i h,wu i O=some h->∀k,wq K w (.loc i) h k->w'.heap[k]?=w.heap[k]?:=fun i h hi k f=>hold k ((H.own.1 i h hi).1.wY f);have back:∀i h,wu i O=some h->∀k,wq (K++ [x]) w' (.loc i) h k->wq K w (.loc i) h k:=fun i h hi k f=>H.stands hpre hi (keep i h hi) f;refine{pre:=H.pre.trans hpre,len:=by simp[H.len],qN:=H.qN,own:=⟨?_,?_⟩,fr:=⟨ho.trans H.fr.os,ht.trans H.fr.tape,hp.trans H.fr.output,zP H.fr.drawn eR,zP H.fr.size hsz,?_⟩}
 .intro i g hi;rw[Za]at hi;split at hi
  .rename_i e;subst e;injection hi with hi;subst hi;exact⟨hs,hF⟩
  exact⟨((H.own.1 i g hi).1.keep (keep i g hi)).mono hpre,fun k f=>(H.own.1 i g hi).2 k (back i g hi k f)⟩
 .intro i j g g' k hi hj hij f f';rw[Za]at hi hj;split at hi
  .rename_i hq;subst hq;rw[z7 (yX hij)]at hj;injection hi with hi;subst hi;exact hne k f j g' hj (back j g' hj k f')
  .split at hj
   .rename_i hq;subst hq;injection hj with hj;subst hj;exact hne k f' i g hi (back i g hi k f)
   exact H.own.2 i j g g' k hi hj hij (back i g hi k f) (back j g' hj k f')
 .intro k hk hF;rw[hold k (yL hk H.fr.size)];exact H.fr.block k hk hF
def iC:Hp->Bool
 | .jJ _ _ _=>false
 | .deep _ _ _=>false
 | .eP (_::_)=>false
 |_=>true
theorem Hy{h:Hp}(hl:iC h=true){w:World}{g k:Nat}(f:wZ w g h k):False:=by
 cases h with
 |jJ T t l=>cases hl
 |deep mp es rs=>cases hl
 |eP l=>
  cases l with
  |nil=>cases f
  |cons _ _=>cases hl
 |_=>exact f
theorem uY.alloc(H:uY M K w O nx){o:Obj}(hh:w'.heap=w.heap.push o)(ho:w'.os=w.os)(ht:w'.tape=w.tape)(hp:w'.output=w.output)(base cap:Nat){h:Hp}
 (hs:uZ (K++ [some ⟨w.heap.size,base,cap⟩]) w' true (.loc nx) h) (eR:w.drawn<=w'.drawn:=by first|exact zo _|exact xN _) (hl:iC h=true:=by rfl):uY M (K++ [some ⟨w.heap.size,base,cap⟩]) w' ((nx,h)::O) (nx+1):=by
 have hnew:(K++ [some (⟨w.heap.size,base,cap⟩:kM)]).get (.loc nx)=some (some ⟨w.heap.size,base,cap⟩):=by simp only[Env.get];rw[<-H.len];simp
 have one:∀k,wq (K++ [some ⟨w.heap.size,base,cap⟩]) w' (.loc nx) h k->k=w.heap.size:=fun k f=>by
  rcases f.of hnew with h1|h1
  exact h1.symm;exact(Hy hl h1).elim
 refine H.push _ (fun k hk=>Nn hh hk) (by rw[hh,ug];exact xN _) ho ht hp eR hs (fun k f=> .inr ?_) fun k f j g hj f'=>?_;rw[one k f];exact H.fr.size
 .have:=(H.own.1 j g hj).1.wY f';rw[one k f]at this;omega
theorem uY.oE(H:uY M K w O nx){i:Nat}{h0 h:Hp}(hi:wu i O=some h0){e:kM}(he:K[i]?=some (some e))(qY:∀k,k≠e.g->w'.heap[k]?=w.heap[k]?)(hsz:w'.heap.size=w.heap.size)
 (ho:w'.os=w.os) (ht:w'.tape=w.tape) (hp:w'.output=w.output) (hs:uZ K w' true (.loc i) h) (eR:w.drawn<=w'.drawn) (G6:∀k,wq K w' (.loc i) h k->wq K w (.loc i) h0 k):uY M K w' (qh i h O) nx:=by
 have hsome:(wu i O).isSome:=by rw[hi];rfl
 have fi:wq K w (.loc i) h0 e.g:=wq.own he;have keep:∀j g,j≠i->wu j O=some g->∀k,wq K w (.loc j) g k->w'.heap[k]?=w.heap[k]?:=fun j g hji hj k f=>qY k fun hk=>H.own.2 j i g h0 k hj hi hji f (hk▸fi);have back:∀j g,j≠i->wu j O=some g->∀k,wq K w' (.loc j) g k->wq K w (.loc j) g k:=fun j g hji hj k f=>H.stands zw hj (keep j g hji hj) f;refine{pre:=H.pre,len:=H.len,qN:=H.qN,own:=⟨?_,?_⟩,fr:=⟨ho.trans H.fr.os,ht.trans H.fr.tape,hp.trans H.fr.output,zP H.fr.drawn eR,by rw[hsz];exact H.fr.size,?_⟩}
 .intro j g hj;rw[Y0 i h O j hsome]at hj;split at hj
  .rename_i e;subst e;injection hj with hj;subst hj
   exact⟨hs,fun k f=>(H.own.1 j h0 hi).2 k (G6 k f)⟩
  .rename_i hne;exact⟨(H.own.1 j g hj).1.keep (keep j g hne hj),fun k f=>(H.own.1 j g hj).2 k (back j g hne hj k f)⟩
 .intro j k g g' m hj hk hne f f';rw[Y0 i h O j hsome]at hj;rw[Y0 i h O k hsome]at hk;split at hj
  .rename_i e1;subst e1;injection hj with hj;subst hj
   rw[z7 (yX hne)]at hk;exact H.own.2 j k h0 g' m hi hk hne (G6 m f) (back k g' (yX hne) hk m f')
  .rename_i hji;split at hk
   .rename_i e1;subst e1;injection hk with hk;subst hk
    exact H.own.2 j k g h0 m hj hi hne (back j g hji hj m f) (G6 m f')
   .rename_i hki;exact H.own.2 j k g g' m hj hk hne (back j g hji hj m f) (back k g' hki hk m f')
 .intro k hk hF;rw[qY k ?_];exact H.fr.block k hk hF
  .intro hke;subst hke;rcases H.G5 hi he with h1|h1
   exact hF h1;omega
theorem uY.fu(H:uY M K w O nx){i:Nat}{h0 h:Hp}(hi:wu i O=some h0){e:kM}(he:K[i]?=some (some e))(qY:∀k,k≠e.g->w'.heap[k]?=w.heap[k]?)(hsz:w'.heap.size=w.heap.size)
 (ho:w'.os=w.os) (ht:w'.tape=w.tape) (hp:w'.output=w.output) (hs:uZ K w' true (.loc i) h) (eR:w.drawn<=w'.drawn:=by first|exact zo _|exact xN _) (hl:iC h=true:=by rfl):uY M K w' (qh i h O) nx:=
 H.oE hi he qY hsz ho ht hp hs eR fun k f=>by
  rcases f.of (e:=e) (show K.get (.loc i)=some (some e)from he)with h1|h1
  exact h1▸wq.own he;exact(Hy hl h1).elim
theorem uY.name(H:uY M K w O nx)(x:Option kM){h:Hp}(hs:uZ (K++ [x]) w true (.loc nx) h)(hF:∀e,x=some e->M.F e.g\/M.w0.heap.size<=e.g)
 (hne:∀e,x=some e->∀(j:Nat) (g:Hp),wu j O=some g->¬wq K w (.loc j) g e.g) (hl:iC h=true:=by rfl):uY M (K++ [x]) w ((nx,h)::O) (nx+1):=by
 have hnew:(K++ [x]).get (.loc nx)=some x:=by simp only[Env.get];rw[<-H.len];simp
 have one:∀k,wq (K++ [x]) w (.loc nx) h k->∃e,x=some e/\k=e.g:=fun k f=>by
  obtain⟨e,h1,h2⟩:=f;rw[hnew]at h1;injection h1 with h1
  rcases h2 with h2|h2
  exact⟨e,h1,h2.symm⟩;exact(Hy hl h2).elim
 refine H.push x (fun k hk=>rfl) (zo _) rfl rfl rfl (zo _) hs (fun k f=>?_) fun k f j g hj f'=>?_;obtain⟨e,h1,rfl⟩:=one k f;exact hF e h1;obtain⟨e,h1,rfl⟩:=one k f;exact hne e h1 j g hj f'
end
theorem X2{P:Program}(g o:Nat)(t:TypeId)(fz:Nat×Nat):∀(vs:List Value) (i:Nat) (cur:Array Value) (w:World),w.heap[g]?=some (.cells cur t fz)->o+i+vs.length<=cur.size->VD cur.size fz->(∀v∈vs,v.oneCell'=true)->
 (storeCells ⟨g,o,none⟩ vs i).run P w= .ok () (w.setRow g (cur.toList.take (o+i)++vs++cur.toList.drop (o+i+vs.length)).toArray)
 | [],i,cur,w,hg,_,_,_=>by
   simp only[storeCells,zO,List.length_nil,Nat.add_zero,yM,Array.toArray_toList];rw[setRow_self w g cur t fz hg]
   rfl
 |v::rest,i,cur,w,hg,hl,hu,h1=>by
  have hi:o+i<cur.size:=by simp at hl;omega
  have rN:(⟨g,o,none⟩:Addr).add i=⟨g,o+i,none⟩:=by unfold Addr.add;split<;>simp_all
  have hcell:w.cell? ⟨g,o+i,none⟩=some cur[o+i]:=by simp[World.cell?,hg,hi]
  have DX:w.frozen? ⟨g,o+i,none⟩=false:=by
   have:=hu (o+i) hi;simp only[World.frozen?,hg];simpa using this
  have hst:(store ((⟨g,o,none⟩:Addr).add i) v).run P w= .ok () (w.setRow g (cur.setIfInBounds (o+i) v)):=by
   rw[rN,run_store P w _ v _ (h1 v (by simp)),hcell];simp[DX,setCell_eq_setRow w g (o+i) cur t fz v hg]
  have ih:=X2 (P:=P) g o t fz rest (i+1) (cur.setIfInBounds (o+i) v) (w.setRow g (cur.setIfInBounds (o+i) v)) (setRow_heap w g cur _ t _ hg) (by simp at hl⊢;omega) (by simpa using hu) (fun x hx=>h1 x (by simp[hx]));simp only[storeCells,Sem.run_bind,hst,Result.andThen_ok,ih,setRow_setRow];congr 3;have:=list_seg_step cur.toList (o+i) v rest (by simp at hl⊢;omega);simpa[xw,uT,Nat.add_left_comm]using this
theorem Hz{P:Program}{T:kE}(hT:qa P T){K:Env}{t:TypeId}{c:Nat}{row:List SV}{v:SV}{O:w9}{nx:Nat}{O':w9}{w8:Nat}{w:World}{g o:Nat}{arr:Array Value}{tt:TypeId}{fz:Nat×Nat}
 (hg:w.heap[g]?=some (.cells arr tt fz)) (hc:wK K arr o row) (hr:(oy T t c row).ok O nx v O' w8):O'=O/\w8=nx/\∃u,(loadVar t ⟨g,o+c,none⟩).run P w= .ok u w/\Den K v u:=by
 unfold oy at hr;cases ht:pU (T.size t) (row.drop c)with
 |none=>rw[ht]at hr;exact hr.elim
 |some cs=>
  rw[ht]at hr;simp only at hr;obtain⟨rfl,hlen⟩:=U9 ht;cases ho:YH T t ((row.drop c).take (T.size t))with
  |none=>rw[ho]at hr;exact hr.elim
  |some sv=>
   rw[ho]at hr;obtain⟨rfl,rfl,rfl⟩:=hr
   have hsh:T.sh t≠ .other:=by
    intro e;simp only[YH,e]at ho;cases ho
   obtain⟨i,hi,hsz,_⟩:=hT.info t hsh;refine⟨rfl,rfl,?_⟩;have ag:=DN hT hsh w
   have G7:cU K (row.drop c) arr.toList (o+c):=by
    intro j sv hj;rw[y8]at hj;obtain⟨u,h1,_,h2⟩:=hc _ _ hj;exact⟨u,by rw[xw];simpa using h1,h2⟩
   have hone:∀u∈(arr.toList.drop (o+c)).take (T.size t),u.oneCell'=true:=by
    intro u hu;obtain⟨j,hj⟩:=List.getElem?_of_mem hu;rw[zQ]at hj;split at hj
    .rename_i hlt;have HA:(row.drop c)[j]?=some ((row.drop c)[j]'(by omega)):=z1 _;rw[y8]at HA hj;obtain⟨u',h1,h2,_⟩:=hc _ _ HA;have:arr.toList[o+c+j]?=some u':=by rw[xw];simpa using h1
     rw[this]at hj;injection hj with hj;subst hj;exact h2
    cases hj
   have bg:=G7.take hlen
   have hcell:∀j u,((arr.toList.drop (o+c)).take (T.size t))[j]?=some u->w.cell? ((⟨g,o+c,none⟩:Addr).add j)=some u:=by
    intro j u hj;rw[zQ]at hj;split at hj
    .rw[y8]at hj;rw[Addr.add_lit];simp only[World.cell?,hg];simpa using hj
    cases hj
   have lY:((arr.toList.drop (o+c)).take (T.size t)).length=T.size t:=by rw[ZU bg,zu];omega
   have agg:(UR (T.sh t))=true->v= .agg ((row.drop c).take (T.size t))->∃u,(loadVar t ⟨g,o+c,none⟩).run P w= .ok u w/\Den K v u:=by
    rintro hb rfl;rw[hb]at ag;have hl:=run_loadCells_list (P:=P) w ⟨g,o+c,none⟩ _ hcell;rw[lY]at hl;refine⟨.agg ⟨(arr.toList.drop (o+c)).take (T.size t)⟩,?_,?_⟩;simp only[loadVar,Sem.run_bind,ag,Result.andThen_ok,yR,Zv hi,hsz,hl,Sem.run_pure]
    .simp only[Den];exact⟨_,rfl,bg,hone⟩
   have one:(UR (T.sh t))=false->(row.drop c).take (T.size t)=[v]->∃u,(loadVar t ⟨g,o+c,none⟩).run P w= .ok u w/\Den K v u:=by
    intro hb hs;rw[hb]at ag;rw[hs]at bg;obtain⟨u,hu,cO⟩:=Xx (i:=0) bg rfl;have:=hcell 0 u hu;rw[Addr.add_zero']at this;exact⟨u,by simp[loadVar,ag,this],cO⟩
   cases hs:T.sh t<;>rw[hs]at agg one<;>simp only[YH,hs]at ho
   case struct=>simp only[zj]at ho;exact agg rfl ho.symm
   case array=>simp only[zj]at ho;exact agg rfl ho.symm
   case other=>cases ho
   all_goals
    split at ho
    .rename_i c hc;simp only[zj]at ho;subst ho;exact one rfl hc
    cases ho
section
variable {M:Mx}{K:Env}{w:World}{O:w9}{nx:Nat}{ρ:Operand->Value}{lk:Operand->Option SV}{v:SV}{O':w9}{w8:Nat}{dst:Option Tmp}{ty:TypeId}{pos:String}{af:Array Edge}{gd:Option (Nat×Bool)}
theorem DY{K:Env}{arr:Array Value}{base es:Nat}:∀{rs:List (List SV)},(∀(i:Nat) (row:List SV),rs[i]?=some row->row.length=es/\wK K arr (base+i*es) row)->
 wI K es rs ((arr.toList.drop base).take (rs.length*es))/\((arr.toList.drop base).take (rs.length*es)).length=rs.length*es/\∀u∈(arr.toList.drop base).take (rs.length*es),u.oneCell'=true:=by
 intro rs
 induction rs generalizing base with
 |nil=>intro _;simp[wI]
 |cons r rs ih=>
  intro h;obtain⟨h1,h2⟩:=h 0 r rfl
  have h3:=ih (base:=base+es) (fun i row hi=>by
   obtain⟨h4,h5⟩:=h (i+1) row (by simpa using hi);refine⟨h4,?_⟩;rw[show base+es+i*es=base+(i+1)*es by rw[yB];omega]
   exact h5)
  have hf:cU K r arr.toList base:=fun j sv hj=>by
   obtain⟨u,h6,_,h7⟩:=h2 j sv hj;exact⟨u,by simpa using h6,h7⟩
  have hd:=hf.take (n:=es) (by omega);rw[zi (by omega)]at hd;have hlen:((arr.toList.drop base).take es).length=es:=by rw[ZU hd,h1]
  have hsplit:(arr.toList.drop base).take ((r::rs).length*es)=(arr.toList.drop base).take es++(arr.toList.drop (base+es)).take (rs.length*es):=by
   rw[List.length_cons,yB,uT,List.take_add,yt]
  rw[hsplit];refine⟨?_,?_,?_⟩;simp only[wI];exact⟨_,_,rfl,hlen,hd,h3.1⟩;rw[zg,hlen,h3.2.1,List.length_cons,yB];omega
  .intro u hu;rcases zW.1 hu with hu|hu
   .obtain⟨j,hj⟩:=List.getElem?_of_mem hu;rw[zQ]at hj;split at hj
    .rename_i hlt;obtain⟨u',h6,h7,_⟩:=h2 j _ (z1 (by omega));rw[y8]at hj;rw[yT,Nat.add_zero]at h6;have:arr.toList[base+j]?=some u':=by simpa using h6
     rw[this]at hj;injection hj with hj;subst hj;exact h7
    cases hj
   exact h3.2.2 u hu
theorem Np(hT:qa M.P M.C.T)(H:uY M K w O nx){t:TypeId}{p:SV}{pv:Value}(wU:Den K p pv)(hr:(K0 M.C.T (Yk M.C O) t p).ok O nx v O' w8):
 O'=O/\w8=nx/\∃a u,pv= .pointer (some a)/\(loadVar t a).run M.P w= .ok u w/\Den K v u:=by
 unfold K0 at hr;split at hr
 case h_2=>exact hr.elim
 rename_i b r es c;simp only[Den]at wU;obtain⟨en,hb,wU⟩:=wU;subst wU;split at hr
 .rename_i row hh;have wA:=H.look hh;simp only[uZ]at wA;obtain⟨aB,arr,T,fz,h1,h2,_,h3⟩:=wA;rw[hb]at h1;injection h1 with h1;injection h1 with h1;subst h1
  split at hr
  case h_2=>exact hr.elim
  rename_i hz;have hz:=Zs hz;subst hz;obtain⟨e1,e2,u,hu,hd⟩:=Hz hT h2 h3 hr;exact⟨e1,e2,_,u,rfl,by rw[yT,zy];exact hu,hd⟩
 .rename_i es' rs hh;have wA:=H.look hh;simp only[uZ]at wA;split at hr
  case h_2=>exact hr.elim
  rename_i qX;have qX:=Zs qX;subst qX;rcases wA with⟨h1,_⟩|⟨aB,arr,T,fz,h1,h2,_,h3⟩
  rw[hb]at h1;cases h1;rw[hb]at h1;injection h1 with h1;injection h1 with h1;subst h1
  have oZ:∀{hr:(wW.get rs r fun row=>oy M.C.T t c row).ok O nx v O' w8},O'=O/\w8=nx/\∃a u,(Value.pointer (some ⟨en.g,en.base+(r*es+c),none⟩))= .pointer (some a)/\(loadVar t a).run M.P w= .ok u w/\Den K v u:=by
   rintro⟨row,hrow,hr⟩;obtain⟨h4,h5⟩:=h3 r row hrow;obtain⟨e1,e2,u,hu,hd⟩:=Hz hT h2 h5 hr;exact⟨e1,e2,_,u,rfl,by rw[<-xw];exact hu,hd⟩
  split at hr
  .rename_i n e hs;split at hr
   .rename_i dJ;have dJ:=Zs dJ;obtain⟨⟨rfl,rfl,hlen⟩,rfl,rfl,rfl⟩:=hr;obtain⟨h4,h5,h6⟩:=DY h3;obtain⟨d,hd,hm⟩:=hT.jk t (by rw[hs];simp);rw[hs]at hm;simp only[jg]at hm;obtain⟨rfl,hsz,_⟩:=hm;obtain⟨i,hi,DZ,_⟩:=hT.info t (by rw[hs];simp);have ag:=DN hT (t:=t) (by rw[hs];simp) w;rw[hs]at ag;simp only[UR]at ag
    have hcell:∀j u,((arr.toList.drop en.base).take (rs.length*es))[j]?=some u->w.cell? ((⟨en.g,en.base,none⟩:Addr).add j)=some u:=by
     intro j u hj;rw[zQ]at hj;split at hj
     .rw[y8]at hj;rw[Addr.add_lit];simp only[World.cell?,h2];simpa using hj
     cases hj
    have hl:=run_loadCells_list (P:=M.P) w ⟨en.g,en.base,none⟩ _ hcell;rw[h5]at hl;have mm:i.size=rs.length*es:=by rw[DZ,hsz,hlen,dJ]
    refine⟨rfl,rfl,_, .agg ⟨(arr.toList.drop en.base).take (rs.length*es)⟩,rfl,?_,?_⟩
    .simp only[yT,Nat.add_zero];simp only[loadVar,Sem.run_bind,ag,Result.andThen_ok,yR,Zv hi,mm,hl,Sem.run_pure]
    simp only[Den];exact⟨_,rfl,h4,h6⟩
   exact oZ (hr:=hr)
  exact oZ (hr:=hr)
 .rename_i es' rs hh;have wA:=H.look hh;simp only[uZ]at wA;split at hr
  case h_2=>exact hr.elim
  rename_i qX;have qX:=Zs qX;subst qX;rcases wA.1 with⟨h1,_⟩|⟨aB,arr,T,fz,h1,h2,_,h3⟩
  rw[hb]at h1;cases h1;rw[hb]at h1;injection h1 with h1;injection h1 with h1;subst h1
  obtain⟨row,hrow,hr⟩:=hr;obtain⟨h4,h5⟩:=h3 r row hrow;obtain⟨e1,e2,u,hu,hd⟩:=Hz hT h2 h5 hr;exact⟨e1,e2,_,u,rfl,by rw[<-xw];exact hu,hd⟩
 exact hr.elim
theorem Zmc(A:At M K w O nx ρ lk)(args:Array Operand)(ts:Array TypeId)(hr:(qH M.C lk O nx (.call ⟨.builtin .len,args,ts⟩)).ok O nx v O' w8):Y9 M K w ⟨dst, .call ⟨.builtin .len,args,ts⟩,ty,pos,af,gd⟩ ρ v O' w8:=by
 simp only[qH,VC,KW]at hr;split at hr
 case h_2=>exact hr.elim
 rename_i x ha;obtain rfl:args= #[x]:=by apply yC;simpa using ha
 split at hr
 case h_2=>exact hr.elim
 rename_i t ht;obtain rfl:ts= #[t]:=by apply yC;simpa using ht
 split at hr
 .rename_i s hx;split at hr
  case h_2=>exact hr.elim
  rename_i hs;obtain⟨d,hd,hm⟩:=A.T.jk t (by rw[hs];simp);rw[hs]at hm;simp only[jg]at hm;subst hm;have wU:=tc (A.L _ _ hx);exact A.val hr ⟨.int .i64 s.length, .inl (by simp[execOp,resolve,invoke,builtin,wU,Builtin.len_,Z8 hd,goInt,VW]),rfl⟩
 .rename_i b r es len lim hx;split at hr
  case h_2=>exact hr.elim
  rename_i e hs;obtain⟨d,hd,hm⟩:=A.T.jk t (by rw[hs];simp);rw[hs]at hm;simp only[jg]at hm;subst hm;have wU:=A.L _ _ hx
  obtain⟨a,cap,hv⟩:∃a cap,ρ x= .slice a len cap:=by
   simp only[Den]at wU;rcases wU with⟨_,h,rfl⟩|⟨en,o,_,h,_⟩
   exact⟨_,_,h⟩;exact⟨_,_,h⟩
  exact A.val hr ⟨.int .i64 len, .inl (by simp[execOp,resolve,invoke,builtin,hv,Builtin.len_,Z8 hd,goInt]),rfl⟩
 .rename_i hx;split at hr
  case h_2=>exact hr.elim
  rename_i e hs;obtain⟨d,hd,hm⟩:=A.T.jk t (by rw[hs];simp);rw[hs]at hm;simp only[jg]at hm;subst hm;have wU:=(A.L _ _ hx).1;exact A.val hr ⟨.int .i64 _, .inl (by simp[execOp,resolve,invoke,builtin,wU,Builtin.len_,Z8 hd,goInt]),rfl⟩
 .rename_i b hx;split at hr
  case h_2=>exact hr.elim
  rename_i kt et hs;obtain⟨d,hd,hm⟩:=A.T.jk t (by rw[hs];simp);rw[hs]at hm;simp only[jg]at hm;subst hm;split at hr
  case h_2=>exact hr.elim
  rename_i rs hb;have wU:=A.L _ _ hx;simp only[Den]at wU;obtain⟨e,he,hv⟩:=wU;have wA:=A.H.look hb;simp only[uZ]at wA;obtain⟨e',es,h1,h2,h3,h4,h5⟩:=wA;rw[he]at h1;cases h1;exact A.val hr ⟨.int .i64 rs.length, .inl (by simp[execOp,resolve,invoke,builtin,hv,Builtin.len_,Z8 hd,goInt,JO h3,h4]),rfl⟩
 exact hr.elim
theorem Zmd(A:At M K w O nx ρ lk)(args:Array Operand)(ts:Array TypeId)(hr:(qH M.C lk O nx (.call ⟨.builtin .cap,args,ts⟩)).ok O nx v O' w8):Y9 M K w ⟨dst, .call ⟨.builtin .cap,args,ts⟩,ty,pos,af,gd⟩ ρ v O' w8:=by
 simp only[qH,VC,KX]at hr;split at hr
 case h_2=>exact hr.elim
 rename_i x ha;obtain rfl:args= #[x]:=by apply yC;simpa using ha
 split at hr
 case h_2=>exact hr.elim
 rename_i t ht;obtain rfl:ts= #[t]:=by apply yC;simpa using ht
 split at hr
 case h_2=>exact hr.elim
 rename_i hx;split at hr
 case h_2=>exact hr.elim
 rename_i e hs;obtain⟨d,hd,hm⟩:=A.T.jk t (by rw[hs];simp);rw[hs]at hm;simp only[jg]at hm;subst hm;have wU:ρ x= .slice none 0 0:=(A.L _ _ hx).1;exact A.val hr ⟨.int .i64 0, .inl (by simp[execOp,resolve,invoke,builtin,wU,Builtin.cap_,Z8 hd,goInt]),rfl⟩
end
theorem WB(n:Nat):VD n (0,0):=fun o _ h=>by omega
theorem wK.bK{K:Env}{row:List SV}{vs:List Value}(h:w6 K row vs)(h1:∀u∈vs,u.oneCell'=true):wK K ⟨vs⟩ 0 row:=by
 intro j sv hj;obtain⟨u,hu,hd⟩:=Xx h hj;exact⟨u,by simpa using hu,h1 u (zU hu),hd⟩
theorem X8{K:Env}{es:Nat}{rs:List (List SV)}{vs:List Value}(h:wI K es rs vs)(h1:∀u∈vs,u.oneCell'=true):∀(i:Nat) (row:List SV),rs[i]?=some row->row.length=es/\wK K ⟨vs⟩ (0+i*es) row:=by
 intro i row hi;obtain⟨h2,h3⟩:=DR h hi;refine⟨h3,fun j sv hj=>?_⟩;obtain⟨u,hu,hd⟩:=h2 j sv hj;exact⟨u,by simpa using hu,h1 u (zU hu),hd⟩
def X5(w:World)(o:Obj):World:={w with heap:=w.heap.push o}
section
variable {M:Mx}{K:Env}{w:World}{O:w9}{nx:Nat}{ρ:Operand->Value}{lk:Operand->Option SV}{v:SV}{O':w9}{w8:Nat}{dst:Option Tmp}{ty:TypeId}{pos:String}{af:Array Edge}{gd:Option (Nat×Bool)}
theorem ZR{K:Env}{nx:Nat}(h:K.length=nx)(e:Option kM):Env.get (K++ [e]) (.loc nx)=some e:=by
 subst h;simp[Env.get]
theorem Zjd(H:uY M K w O nx)(e:TypeId){row:List SV}{vs:List Value}(h:w6 K row vs)(h1:∀u∈vs,u.oneCell'=true):
 uY M (K++ [some ⟨w.heap.size,0,1⟩]) (X5 w (.cells ⟨vs⟩ e)) ((nx, .box row)::O) (nx+1):=by
 refine H.alloc (w':=X5 w (.cells ⟨vs⟩ e)) rfl rfl rfl rfl 0 1 ?_;simp only[uZ];exact⟨_,⟨vs⟩,e,(0,0),ZR H.len _,YB (w:=w) (w':=X5 w (.cells ⟨vs⟩ e)) rfl,fun _=>WB _,(wK.bK h h1).mono (zC _ _)⟩
theorem HB(H:uY M K w O nx)(e:TypeId){es:Nat}{rs:List (List SV)}{vs:List Value}(cap:Nat){arr:Array Value}(hsz:arr.size=cap*es)(hcap:rs.length<=cap)
 (hr:∀(i:Nat) (row:List SV),rs[i]?=some row->row.length=es/\wK K arr (0+i*es) row):
 uY M (K++ [some ⟨w.heap.size,0,cap⟩]) (X5 w (.cells arr e)) ((nx, .rows es rs)::O) (nx+1):=by
 refine H.alloc (w':=X5 w (.cells arr e)) rfl rfl rfl rfl 0 cap ?_;simp only[uZ];right
 exact⟨_,arr,e,(0,0),ZR H.len _,YB (w:=w) (w':=X5 w (.cells arr e)) rfl,fun _=>⟨WB _,hsz,hcap,rfl⟩,fun i row hi=>⟨(hr i row hi).1,(hr i row hi).2.mono (zC _ _)⟩⟩
theorem Nq(A:At M K w O nx ρ lk)(e:TypeId){v0:SV}{u:Value}(hd:Den K v0 u)(hr:(Hi M.C.T e nx v0).ok O nx v O' w8):
 ∃η',K<+:η'/\uY M η' (X5 w (.cells u.cells e)) O' w8/\Den η' v (.pointer (some ⟨w.heap.size,0,none⟩))/\η'≠K:=by
 have iD:∀(es:Nat) (cap:Nat),Den (K++ [some ⟨w.heap.size,0,cap⟩]) (.ptr (.loc nx) 0 es 0) (.pointer (some ⟨w.heap.size,0,none⟩)):=by
  intro es cap;simp only[Den];exact⟨_,ZR A.H.len _,by simp⟩
 have G8:∀{h:Hp} {es:Nat},Hh M.C.T e v0=some h->(∀n q,M.C.T.sh e= .array n q->M.C.T.size q=es)->v= .ptr (.loc nx) 0 es 0->O'=(nx,h)::O->w8=nx+1->∃η',K<+:η'/\uY M η' (X5 w (.cells u.cells e)) O' w8/\Den η' v (.pointer (some ⟨w.heap.size,0,none⟩))/\η'≠K:=by
  rintro h es hb qX rfl rfl rfl;unfold Hh at hb;split at hb
  .rename_i n q hs;split at hb
   case h_2=>cases hb
   rename_i cs;rw[hs]at hb;simp only at hb;split at hb
   case h_2=>cases hb
   rename_i rs hc;injection hb with hb;subst hb;simp only[Den]at hd;obtain⟨vs,rfl,h1,h2⟩:=hd;obtain⟨h3,h4,_⟩:=V5 hc;have hl:=ZU h1;exact⟨_,zC _ _,HB A.H e (vs:=vs) n (by show vs.length=_;rw[hl,h4]) (by omega) (X8 (DT hc h1) h2),iD _ _,by simp⟩
  cases hb
  .split at hb
   case h_2=>cases hb
   rename_i cs hc;injection hb with hb;subst hb;obtain⟨h1,h2⟩:=W3 hd hc;have:=Zjd A.H e h1 h2;exact⟨_,zC _ _,by simpa using this,iD _ _,by simp⟩
 unfold Hi at hr;split at hr
 .rename_i n q es rs hs;split at hr
  case h_2=>exact hr.elim
  rename_i qX;have qX:=Zs qX;subst qX;obtain⟨hlen,rfl,rfl,rfl⟩:=hr;simp only[Den]at hd;obtain⟨vs,rfl,h1,h2⟩:=hd;have hl:=V6 h1;exact⟨_,zC _ _,HB A.H e (vs:=vs) n (by show vs.length=_;rw[hl,hlen]) (by omega) (X8 h1 h2),iD _ _,by simp⟩
 .rename_i n q v0' hs _;split at hr
  case h_2=>exact hr.elim
  rename_i h hb;obtain⟨e1,e2,e3⟩:=hr;exact G8 hb (fun n' q' h=>by rw[hs]at h;injection h with _ h;rw[h]) e1 e2 e3
 .rename_i hna _;split at hr
  case h_2=>exact hr.elim
  rename_i h hb;obtain⟨e1,e2,e3⟩:=hr;exact G8 hb (fun n' q' h=>absurd h (hna _ _)) e1 e2 e3
theorem Zeh(A:At M K w O nx ρ lk)(tb te:TypeId){v0:SV}{u:Value}(hd:Den K v0 u)(hr:(Dt tb te nx v0).ok O nx v O' w8):
 ∃η',K<+:η'/\uY M η' (X5 w (.cells u.cells tb)) O' w8/\Den η' v (.pointer (some ⟨w.heap.size,0,none⟩))/\η'≠K:=by
 unfold Dt at hr;split at hr
 case h_2=>exact hr.elim
 obtain⟨rfl,rfl,rfl⟩:=hr;simp only[Den,w6]at hd;obtain⟨vs,rfl,⟨u1,us1,rfl,h1,u2,us2,rfl,h2,rfl⟩,_⟩:=hd;obtain⟨rfl,_⟩:=h1;obtain⟨rfl,_⟩:=h2;have hheap:(X5 w (.cells #[.pointer none, .slice none 0 0] tb)).heap[w.heap.size]?=some (.cells #[.pointer none, .slice none 0 0] tb (0,0)):=YB (w:=w) rfl;have hnew:(K++ [some (⟨w.heap.size,0,1⟩:kM)]).get (.loc nx)=some (some ⟨w.heap.size,0,1⟩):=ZR A.H.len _
 have one:∀k,wq (K++ [some ⟨w.heap.size,0,1⟩]) (X5 w (.cells #[.pointer none, .slice none 0 0] tb)) (.loc nx) (.jJ tb te []) k->k=w.heap.size:=fun k f=>by
  rcases f.of hnew with h|h
  exact h.symm
  .simp only[wZ]at h;obtain⟨arr,T,fz,v,k1,k2,k3⟩:=h;rw[hheap]at k1;injection k1 with k1;injection k1 with k1;subst k1;simp at k2;subst k2;simp[Value.ownBlock]at k3
 refine⟨_,zC _ _,A.H.push (some ⟨w.heap.size,0,1⟩) (fun k hk=>Nn (w:=w) rfl hk) (by simp[X5]) rfl rfl rfl (zo _) ?_ (fun k f=> .inr ?_) (fun k f j g hj f'=>?_),?_,by simp⟩
 .simp only[uZ];exact⟨_,hnew,rfl, .inl ⟨xO _,_,hheap,⟨rfl, .inl ⟨rfl,rfl⟩⟩,by simp[Value.ownBlock]⟩⟩
 rw[one k f];exact A.H.fr.size
 .have:=(A.H.own.1 j g hj).1.wY f';rw[one k f]at this;omega
 .simp only[Den];exact⟨_,hnew,by simp⟩
theorem Nr(A:At M K w O nx ρ lk)(e:TypeId){v0:SV}{u:Value}(hd:Den K v0 u)(hr:(newR M.C.T e nx v0).ok O nx v O' w8):
 ∃η',K<+:η'/\uY M η' (X5 w (.cells u.cells e)) O' w8/\Den η' v (.pointer (some ⟨w.heap.size,0,none⟩))/\η'≠K:=by
 unfold newR at hr;split at hr
 .split at hr
  .rename_i h;rw[Zs h];exact Zeh A _ _ hd hr
  exact Nq A e hd hr
 exact Nq A e hd hr
theorem Zje(A:At M K w O nx ρ lk)(e:TypeId)(hr:(qH M.C lk O nx (.alloc e)).ok O nx v O' w8):Y9 M K w ⟨dst, .alloc e,ty,pos,af,gd⟩ ρ v O' w8:=by
 simp only[qH,Pk]at hr;split at hr
 exact hr.elim;rename_i c cs hz;split at hr
 case h_2=>exact hr.elim
 rename_i v0 ho;have hsh:M.C.T.sh e≠ .other:=by intro h;simp[YH,h]at ho
 obtain⟨i,z,h1,h2,h3⟩:=DU A.T hsh (by rw[hz];simp) (by rw[hz];exact ho) K;obtain⟨η',h4,h5,h6,h7⟩:=Nr A e h3 hr;exact⟨_,_,η', .inl (by simp[execOp,Instr.alloc,Jo h1 h2,newVar,newRow];rfl),h4,h5,h6,fun _ h=>absurd h h7⟩
theorem Zme(A:At M K w O nx ρ lk)(e:TypeId)(x:Operand)(hr:(qH M.C lk O nx (.box e x)).ok O nx v O' w8):Y9 M K w ⟨dst, .box e x,ty,pos,af,gd⟩ ρ v O' w8:=by
 simp only[qH,KR]at hr;split at hr
 case h_2=>exact hr.elim
 rename_i v0 hx;obtain⟨η',h4,h5,h6,h7⟩:=Nr A e (A.L _ _ hx) hr;exact⟨_,_,η', .inl (by simp[execOp,Instr.box,newVar,newRow];rfl),h4,h5,h6,fun _ h=>absurd h h7⟩
theorem Ns:∀{row vs r:List SV},ic row vs=some r->r=vs++row.drop vs.length/\vs.length<=row.length
 |row,[],r,h=>by simp only[ic,zj]at h;subst h;simp
 | [],v::vs,r,h=>by simp[ic]at h
 |x::row,v::vs,r,h=>by
  simp only[ic]at h;cases e:ic row vs with
  |none=>rw[e]at h;cases h
  |some q=>
   rw[e]at h;simp only[zj]at h;subst h;obtain⟨h1,h2⟩:=Ns e;subst h1;simp;omega
theorem VE:∀{c:Nat} {row vs r:List SV},VU c row vs=some r->r=row.take c++vs++row.drop (c+vs.length)/\c+vs.length<=row.length
 |0,row,vs,r,h=>by
  simp only[VU]at h;obtain⟨h1,h2⟩:=Ns h;subst h1;simp;exact h2
 |c+1,[],vs,r,h=>by simp[VU]at h
 |c+1,x::row,vs,r,h=>by
  simp only[VU]at h;cases e:VU c row vs with
  |none=>rw[e]at h;cases h
  |some q=>
   rw[e]at h;simp only[zj]at h;subst h;obtain⟨h1,h2⟩:=VE e;subst h1;rw[show c+1+vs.length=(c+vs.length)+1 by omega];simp;omega
theorem Nt(off:Nat):∀(vs:List Value) (k:Nat) (cur:Array Value),off+k+vs.length<=cur.size->
 ((vs.zipIdx k).foldl (fun cs (p:Value×Nat)=>cs.setIfInBounds (off+p.2) p.1) cur).toList=cur.toList.take (off+k)++vs++cur.toList.drop (off+k+vs.length)
 | [],k,cur,h=>by simp
 |v::vs,k,cur,h=>by
  have ih:=Nt off vs (k+1) (cur.setIfInBounds (off+k) v) (by simp at h⊢;omega);simp only[List.zipIdx_cons,List.foldl_cons];rw[ih];have:=list_seg_step cur.toList (off+k) v vs (by simp at h⊢;omega);simpa[xw,uT,Nat.add_left_comm]using this
theorem HC{K:Env}{place:Nat->Option (Nat×Nat)}:∀{ps:List (Nat×SV)} {vs:List (Nat×Value)} {cells:List SV} {cur:Array Value} {cs:List SV},iq cells place ps=some cs->w6 K cells cur.toList->(∀u∈cur.toList,u.oneCell'=true)->
 vs.length=ps.length->(∀(i:Nat) (p:Nat×SV),ps[i]?=some p->∃u,vs[i]?=some (p.1,u)/\Den K p.2 u)->
 ∃arr,Instr.fill place cur vs=some arr/\w6 K cs arr.toList/\∀u∈arr.toList,u.oneCell'=true
 | [],vs,cells,cur,cs,h,hd,h1,hl,_=>by
   simp only[iq,zj]at h;subst h;obtain rfl:vs=[]:=zJ.1 hl;exact⟨cur,rfl,hd,h1⟩
 |(i,sv)::ps,[],cells,cur,cs,h,hd,h1,hl,_=>by simp at hl
 |(i,sv)::ps,(i',u)::vs,cells,cur,cs,h,hd,h1,hl,hp=>by
  obtain⟨u',hu,cO⟩:=hp 0 (i,sv) rfl;simp at hu;obtain⟨rfl,rfl⟩:=hu;simp only[iq]at h;split at h
  case h_2=>cases h
  rename_i off size fh;split at h
  case h_2=>cases h
  rename_i ws lZ;split at h
  case h_2=>cases h
  rename_i cells' hlen hsp;have hlen:=jl.1 hlen;obtain⟨rfl,hle⟩:=VE hsp;obtain⟨h2,h3⟩:=W3 cO lZ;have nL:=ZU h2;have hl3:=ZU hd;have hsz:u.cells.size=size:=by rw[<-hlen,<-nL];simp
  have hfit:¬(off+u.cells.size>cur.size):=by
   have:u.cells.size=ws.length:=by rw[hsz,hlen]
   have h5:cur.size=cells.length:=by rw[<-hl3];simp
   omega
  have pe:(u.cells.zipIdx.foldl (fun cs (x:Value×Nat)=>cs.setIfInBounds (off+x.2) x.1) cur).toList=cur.toList.take off++u.cells.toList++cur.toList.drop (off+u.cells.toList.length):=by
   have:=Nt off u.cells.toList 0 cur (by simp;omega);simp only[Nat.add_zero]at this;rw[<-this,<-uz];simp
  have hd':w6 K (cells.take off++ws++cells.drop (off+ws.length)) (cur.toList.take off++u.cells.toList++cur.toList.drop (off+u.cells.toList.length)):=by
   rw[nL];exact YV (YV (DL hd) h2) (DK hd)
  rw[<-pe]at hd'
  obtain⟨arr,h6,h7,h8⟩:=HC (vs:=vs) h hd' (by
   rw[pe];intro x hx;rcases zW.1 hx with hx|hx
   .rcases zW.1 hx with hx|hx
    exact h1 x (uf hx);exact h3 x hx
   exact h1 x (vG hx)) (by simpa using hl) (fun k p hk=>by simpa using hp (k+1) p (by simpa using hk))
  refine⟨arr,?_,h7,h8⟩;simp only[Instr.fill,fh];rw[z7 (by simp[hsz];simpa[hsz]using hfit)];exact h6
theorem Nu{ps:Array (Nat×Operand)}{cV:List (Nat×SV)}(hl:∀x sv,lk x=some sv->Den K sv (ρ x))(h:Hq lk ps=some cV):
 (ps.map fun p=>(p.1,ρ p.2)).toList.length=cV.length/\∀(i:Nat) (p:Nat×SV),cV[i]?=some p->∃u,(ps.map fun p=>(p.1,ρ p.2)).toList[i]?=some (p.1,u)/\Den K p.2 u:=by
 unfold Hq at h;simp only[uG];generalize ps.toList=l at h⊢
 induction l generalizing cV with
 |nil=>simp only[kX,zj]at h;subst h;simp
 |cons p l ih=>
  simp only[kX]at h;split at h
  case h_2=>cases h
  rename_i q hq;split at hq
  case h_2=>cases hq
  rename_i sv jU;simp only[zj]at hq;subst hq;split at h
  case h_2=>cases h
  rename_i qs HD;simp only[zj]at h;subst h;obtain⟨h1,h2⟩:=ih HD;refine⟨by simpa using h1,?_⟩;intro i r hr;cases i with
  |zero=>simp at hr;subst hr;exact⟨ρ p.2,by simp,hl _ _ jU⟩
  |succ i=>simpa using h2 i r (by simpa using hr)
theorem Nv{J Y:Type}{P:Program}{w:World}(f:J->Sem Y)(g:J->Y):∀(l:List J),(∀x∈l,(f x).run P w= .ok (g x) w)->(l.mapM f).run P w= .ok (l.map g) w
 | [],_=>rfl
 |x::l,h=>by
  simp only[vT,Sem.run_bind,h x (by simp),Result.andThen_ok,Nv f g l (fun y hy=>h y (by simp[hy])),Sem.run_pure,zI]
theorem Z88{T:kE}{P:Program}(hT:qa P T){t:TypeId}{fs:List (Nat×TypeId)}(hs:T.sh t= .struct fs){fields:Array Field}(hf:fields.toList.map (fun f=>(f.offset,f.type))=fs)(hok:∀p∈fs,T.sh p.2≠ .other)(w:World):
 (fields.mapM fun f=>do pure (f.offset,<-sizeOf f.type):Sem (Array (Nat×Nat))).run P w= .ok (fields.map fun f=>(f.offset,T.size f.type)) w:=by
 rw[uE];simp only[Sem.run_map];rw[Nv (g:=fun f:Field=>(f.offset,T.size f.type))];simp only[Result.andThen_ok,Result.ok.injEq,xo];apply yC;simp
 .intro f hfm;have:T.sh f.type≠ .other:=hok (f.offset,f.type) (by rw[<-hf];exact vj (f:=fun f:Field=>(f.offset,f.type)) hfm);obtain⟨i,hi,hsz,_⟩:=hT.info f.type this;simp[Zv hi,hsz]
theorem Zjf(A:At M K w O nx ρ lk)(t:TypeId)(ps:Array (Nat×Operand))(hr:(qH M.C lk O nx (.build t ps)).ok O nx v O' w8):Y9 M K w ⟨dst, .build t ps,ty,pos,af,gd⟩ ρ v O' w8:=by
 simp only[qH,Zip]at hr;split at hr
 exact hr.elim;rename_i cV hps;split at hr
 exact hr.elim;rename_i c cs hz;obtain⟨fh,HE⟩:=Nu A.L hps;split at hr
 .rename_i fs hs;split at hr
  case h_2=>exact hr.elim
  rename_i cs' hf;have hsh:M.C.T.sh t≠ .other:=by rw[hs];simp
  obtain⟨i,z,h1,h2,h3,h4,_⟩:=A.T.zero t hsh (by rw[hz];simp);rw[hz]at h3;obtain⟨d,hd,hm⟩:=A.T.jk t hsh;rw[hs]at hm;simp only[jg]at hm;obtain⟨fields,rfl,K4,hok⟩:=hm
  have cg:(fun i=>(fields.map fun f=>(f.offset,M.C.T.size f.type))[i]?)=Dv M.C.T fs:=by
   funext i;unfold Dv;rw[VV,<-K4,z6];cases hq:fields.toList[i]? with
   |none=>simp at hq;simp[hq]
   |some f=>simp at hq;simp[hq]
  obtain⟨arr,h5,h6,h7⟩:=HC hf (w6.mono (xD) h3) h4 fh HE;refine A.val hr ⟨.agg arr, .inl ?_,?_⟩
  .rw[<-cg]at h5;have mo:=Z88 A.T hs K4 hok w;simp only[execOp,Instr.build,Sem.run_bind,Jo h1 h2,Result.andThen_ok,Z8 hd,mo,h5,Sem.run_pure]
  simp only[Den];exact⟨arr.toList,rfl,h6,h7⟩
 .rename_i n e hs;split at hr
  case h_2=>exact hr.elim
  rename_i cs' hf;have hsh:M.C.T.sh t≠ .other:=by rw[hs];simp
  obtain⟨i,z,h1,h2,h3,h4,_⟩:=A.T.zero t hsh (by rw[hz];simp);rw[hz]at h3;obtain⟨d,hd,hm⟩:=A.T.jk t hsh;rw[hs]at hm;simp only[jg]at hm;obtain⟨rfl,hsz,hok⟩:=hm;obtain⟨ie,hie,qw,_⟩:=A.T.info e hok;obtain⟨arr,h5,h6,h7⟩:=HC hf (w6.mono (xD) h3) h4 fh HE;refine A.val hr ⟨.agg arr, .inl ?_,?_⟩
  .have cg:(fun i=>some (i*M.C.T.size e,M.C.T.size e))=Wz M.C.T e:=rfl;rw[<-cg]at h5;simp only[execOp,Instr.build,Sem.run_bind,Jo h1 h2,Result.andThen_ok,Z8 hd,Zv hie,qw,h5,Sem.run_pure]
  simp only[Den];exact⟨arr.toList,rfl,h6,h7⟩
 exact hr.elim
end
def XV(z:List Value)(n:Nat):List Value:=(List.range (n*z.length)).map fun i=>z.getD (i%z.length) undef
theorem Uq(z:Array Value)(n k:Nat)(h:k=n*z.size):((Array.range k).map fun i=>z[i%z.size]!).toList=XV z.toList n:=by
 subst h;unfold XV;simp only[uG,Array.toList_range,Array.length_toList];apply yO;intro i hi
 have hpos:0<z.size:=by
  rcases xl z.size with h|h
  rw[h]at hi;simp at hi;exact h
 have hlt:=uQ i hpos;rw[getElem!_pos z (i%z.size) hlt];simp[List.getD,hlt]
theorem HF(z:List Value)(n:Nat):(XV z n).length=n*z.length:=by simp[XV]
theorem C0{z:List Value}{n i j:Nat}(hi:i<n)(hj:j<z.length):(XV z n)[i*z.length+j]?=z[j]?:=by
 have h1:i*z.length+j<n*z.length:=by
  have:(i+1)*z.length<=n*z.length:=yo _ hi;rw[yB]at this;omega
 have h2:(i*z.length+j)%z.length=j:=by rw[vA,Nat.mul_add_mod];exact xy hj
 unfold XV;rw[z6,yG h1];simp[h2,hj]
theorem C1{z:List Value}(h:∀u∈z,u.oneCell'=true)(n:Nat):∀u∈XV z n,u.oneCell'=true:=by
 intro u hu;unfold XV at hu;obtain⟨i,hi,rfl⟩:=zY.1 hu
 have hpos:0<z.length:=by
  rcases xl z.length with h|h
  rw[h]at hi;simp at hi;exact h
 have hlt:=uQ i hpos;simp only[List.getD,z1 hlt,Option.getD_some];exact h _ (zm hlt)
theorem Nw(z:List Value)(n:Nat):XV z (n+1)=z++XV z n:=by
 apply yx;intro k;by_cases hk:k< (n+1)*z.length
 .have hpos:0<z.length:=by
   rcases xl z.length with h|h
   rw[h]at hk;simp at hk;exact h
  have hd:=Nat.div_add_mod k z.length;have hm:=uQ k hpos;have hq:k/z.length<n+1:=(Nat.div_lt_iff_lt_mul hpos).2 hk;have e:k=k/z.length*z.length+k%z.length:=by rw[vA];exact hd.symm
  rw[e,C0 hq hm];by_cases h0:k/z.length=0
  rw[h0,yT,zy,zn hm]
  .obtain⟨q,td⟩:=Nat.exists_eq_succ_of_ne_zero h0;rw[td,yB,zx (by omega)];rw[show q*z.length+z.length+k%z.length-z.length=q*z.length+k%z.length by omega];rw[C0 (by omega) hm]
 rw[zS (by rw[HF];omega),zS (by rw[zg,HF];rw[yB]at hk;omega)]
theorem Nx{K:Env}{z:List SV}{vs:List Value}(h:w6 K z vs):∀n,w6 K (dG n z) (XV vs n)
 |0=>by simp[dG,XV,w6]
 |n+1=>by
  rw[Nw];simp only[dG];exact YV h (Nx h n)
section
variable {M:Mx}{K:Env}{w:World}{O:w9}{nx:Nat}{ρ:Operand->Value}{lk:Operand->Option SV}{v:SV}{O':w9}{w8:Nat}{dst:Option Tmp}{ty:TypeId}{pos:String}{af:Array Edge}{gd:Option (Nat×Bool)}
theorem W5(hlen:K.length=nx){w:World}{es len cap:Nat}(h:len<=cap):Den (K++ [some ⟨w.heap.size,0,cap⟩]) (.sl (.loc nx) 0 es len none) (.slice (some ⟨w.heap.size,0,none⟩) len cap):=by
 simp only[Den];right
 exact⟨_,0,ZR hlen _,by simp,by simpa using h,by simp,by simp⟩
theorem Z89(A:At M K w O nx ρ lk)(t:TypeId)(len:Nat)(ps:Array (Nat×Operand))(hr:(qH M.C lk O nx (.buildSlice t len ps)).ok O nx v O' w8):Y9 M K w ⟨dst, .buildSlice t len ps,ty,pos,af,gd⟩ ρ v O' w8:=by
 simp only[qH,Pm]at hr;split at hr
 exact hr.elim;rename_i cV hps;obtain⟨fh,HE⟩:=Nu A.L hps;split at hr
 case h_2=>exact hr.elim
 rename_i e hs;obtain⟨d,hd,hm⟩:=A.T.jk t (by rw[hs];simp);rw[hs]at hm;simp only[jg]at hm;subst hm;split at hr
 exact hr.elim;rename_i c cs hz;split at hr
 exact hr.elim;rename_i hle;have hle:=zT hle;split at hr
 exact hr.elim;rename_i cs' hf;split at hr
 case h_2=>exact hr.elim
 rename_i rs hch;obtain⟨rfl,rfl,rfl⟩:=hr;have hsh:M.C.T.sh e≠ .other:=A.T.sY e (by rw[hz];simp);obtain⟨ie,z,h1,h2,h3,h4,h5,_⟩:=A.T.zero e hsh (by rw[hz];simp);rw[hz]at h3 h5;obtain⟨C2,hie,qw,_⟩:=A.T.info e hsh;rw[h1]at hie;injection hie with hie;subst hie
 have h3:=w6.mono (η':=K) xD h3;have hzl:z.cells.toList.length=M.C.T.size e:=by rw[ZU h3,h5]
 have hzs:z.cells.size=M.C.T.size e:=by simpa using hzl
 obtain⟨arr,h6,h7,h8⟩:=HC (cur:=⟨XV z.cells.toList len⟩) hf (Nx h3 len) (C1 h4 len) fh HE;obtain⟨hc1,mq,_⟩:=V5 hch;have hal:=ZU h7;refine⟨_,X5 w (.cells arr e),_, .inl ?_,zC _ _,HB A.H e (vs:=arr.toList) len (by rw[mq]at hal;simpa using hal) (by omega) (X8 (DT hch h7) h8),W5 A.H.len (zo _),fun _ h=>absurd h (by simp)⟩;have cg:(fun i=>some (i*M.C.T.size e,M.C.T.size e))=Wz M.C.T e:=rfl;rw[<-cg]at h6;have hn:¬(len*M.C.T.size e>16777216):=by omega
 have hcells:len*M.C.T.size e≠0->((Array.range (len*M.C.T.size e)).map fun i=>z.cells[i%z.cells.size]!)=⟨XV z.cells.toList len⟩:=by
  intro h0;apply yC;exact Uq z.cells len _ (by rw[hzs])
 by_cases h0:len*M.C.T.size e=0
 .have hnil:XV z.cells.toList len=[]:=by apply zJ.1;rw[HF,hzl,h0]
  rw[hnil]at h6;simp only[uG]at h6;simp[execOp,Instr.buildSlice,Z8 hd,Zv h1,qw,h0,Array.range_zero',h6,newRow,X5]
 .have hc:=hcells h0;simp only[execOp,Instr.buildSlice,Sem.run_bind,Z8 hd,Result.andThen_ok,Zv h1,qw,Sem.run_ite,gt_iff_lt];rw[z7 (by simpa using hn),z7 h0];simp only[Sem.run_bind,Jo h1 h2,Result.andThen_ok,Sem.run_pure,hc,h6,newRow,run_newObj]
  rfl
theorem Za0(A:At M K w O nx ρ lk)(t:TypeId)(l c:Operand)(hr:(qH M.C lk O nx (.makeSlice t l c)).ok O nx v O' w8):Y9 M K w ⟨dst, .makeSlice t l c,ty,pos,af,gd⟩ ρ v O' w8:=by
 simp only[qH,Pw]at hr;split at hr
 case h_2=>exact hr.elim
 rename_i e hs;obtain⟨d,hd,hm⟩:=A.T.jk t (by rw[hs];simp);rw[hs]at hm;simp only[jg]at hm;subst hm;split at hr
 exact hr.elim;rename_i zc zs hz;split at hr
 case h_2=>exact hr.elim
 rename_i k1 ln hl;split at hr
 case h_2=>exact hr.elim
 rename_i k2 cp hc;obtain⟨⟨b0,b1,b2,b3⟩,rfl,rfl,rfl⟩:=hr;have hlv:=V4 (A.L _ _ hl);have rO:=V4 (A.L _ _ hc);have hsh:M.C.T.sh e≠ .other:=A.T.sY e (by rw[hz];simp);obtain⟨ie,z,h1,h2,h3,h4,h5,_⟩:=A.T.zero e hsh (by rw[hz];simp);rw[hz]at h3 h5;obtain⟨C2,hie,qw,cm⟩:=A.T.info e hsh;rw[h1]at hie;injection hie with hie;subst hie
 have h3:=w6.mono (η':=K) xD h3;have hzl:z.cells.toList.length=M.C.T.size e:=by rw[ZU h3,h5]
 have hzs:z.cells.size=M.C.T.size e:=by simpa using hzl
 have w1:IntKind.i64.wrap ln=ln:=IntWalk.i64_in _ ⟨by omega,by omega⟩;have w2:IntKind.i64.wrap cp=cp:=IntWalk.i64_in _ ⟨by omega,by omega⟩
 refine⟨.slice (some ⟨w.heap.size,0,none⟩) ln.toNat cp.toNat,X5 w (.cells ⟨XV z.cells.toList cp.toNat⟩ e),_, .inl ?_,zC _ _,
  HB A.H e (vs:=[]) (rs:=List.replicate cp.toNat (zc::zs)) cp.toNat (by show(XV _ _).length=_;rw[HF,hzl]) (by simp) ?_,W5 A.H.len (by omega),fun _ h=>absurd h (by simp)⟩
 .have hm:=run_make (P:=M.P) w t e ie z hd h1 h2 k1 k2 ln cp b0 b1 (by rw[cm];exact b3) b2
  have hc:madeCells z.cells (cp.toNat*ie.size)=⟨XV z.cells.toList cp.toNat⟩:=by
   apply yC;unfold madeCells;have:=Uq z.cells cp.toNat (cp.toNat*ie.size) (by rw[qw,hzs])
   first|exact this|(split<;>simp_all)
  rw[hc]at hm;simp only[execOp,hlv,rO,Sem.run_bind,hm,Result.andThen_ok,Sem.run_pure]
  rfl
 .intro i row hi;have hi':=zf.1 hi;obtain⟨hlt,hrow⟩:=hi';simp only[u0]at hrow;subst hrow;simp only[yN]at hlt;refine⟨h5,fun j sv hj=>?_⟩;obtain⟨u,hu,cO⟩:=Xx h3 hj;refine⟨u,?_,h4 u (zU hu),cO⟩;have hjl:=(zf.1 hu).1;have:=C0 (z:=z.cells.toList) hlt hjl;rw[hzl]at this;rw[zy];rw[yY,this];exact hu
theorem Ny{K:Env}{arr:Array Value}{o c:Nat}{row vs:List SV}{us:List Value}(hc:wK K arr o row)(hd:w6 K vs us)(h1:∀u∈us,u.oneCell'=true)(hle:c+vs.length<=row.length)(hfit:o+c+us.length<=arr.size):
 wK K (arr.toList.take (o+c)++us++arr.toList.drop (o+c+us.length)).toArray o (row.take c++vs++row.drop (c+vs.length)):=by
 have hl:=ZU hd;intro j sv hj
 have kZ:∀k,(arr.toList.take (o+c)++us++arr.toList.drop (o+c+us.length))[o+k]?=if k<c then arr[o+k]? else if k<c+us.length then us[k-c]? else arr[o+k]?:=by
  intro k;have ht:(arr.toList.take (o+c)).length=o+c:=by rw[zu];simp;omega
  rw[zM];split
  rw[zn (by omega),zQ,zh (by omega)];simp
  .rw[zx (by omega),ht];split
   rw[zn (by omega)];congr 1;omega
   .rw[zx (by omega),y8];rw[show o+c+us.length+(o+k-(o+c)-us.length)=o+k by omega];simp
 have hrow:(row.take c++vs++row.drop (c+vs.length))[j]?=if j<c then row[j]? else if j<c+vs.length then vs[j-c]? else row[j]?:=by
  have ht:(row.take c).length=c:=by rw[zu];omega
  rw[zM];split
  rw[zn (by omega),zQ,zh (by omega)]
  .rw[zx (by omega),ht];split
   rw[zn (by omega)]
   .rw[zx (by omega),y8];congr 1;omega
 rw[hrow]at hj;have hg:=kZ j;rw[<-hl]at hj
 have key:∀x,(if j<c then arr[o+j]? else if j<c+us.length then us[j-c]? else arr[o+j]?)=some x->(arr.toList.take (o+c)++us++arr.toList.drop (o+c+us.length)).toArray[o+j]?=some x:=by
  intro x hx;rw[<-hx,<-hg];simp
 split at hj
 .rename_i h;obtain⟨u,h2,h3,h4⟩:=hc j sv hj;exact⟨u,key u (by rw[zh h];exact h2),h3,h4⟩
 .rename_i h;split at hj
  .rename_i h';obtain⟨u,h2,h3⟩:=Xx hd hj;exact⟨u,key u (by rw[z7 h,zh h'];exact h2),h1 u (zU h2),h3⟩
  .rename_i h';obtain⟨u,h2,h3,h4⟩:=hc j sv hj;exact⟨u,key u (by rw[z7 h,z7 h'];exact h2),h3,h4⟩
theorem C3{K:Env}{arr:Array Value}{o p n:Nat}{row:List SV}{us:List Value}(hc:wK K arr o row)(hr:row.length=n)(hfit:p+us.length<=arr.size)(hoff:o+n<=p\/p+us.length<=o):
 wK K (arr.toList.take p++us++arr.toList.drop (p+us.length)).toArray o row:=by
 intro j sv hj;obtain⟨u,h2,h3,h4⟩:=hc j sv hj;refine⟨u,?_,h3,h4⟩;have hjl:=(zf.1 hj).1;have ht:(arr.toList.take p).length=p:=by rw[zu];simp;omega
 simp only[zM,yY];rcases hoff with h|h
 rw[zn (by omega),zQ,zh (by omega)];simpa using h2
 .rw[zx (by omega),ht,zx (by omega),y8];rw[show p+us.length+(o+j-p-us.length)=o+j by omega];simpa using h2
end
section
variable {M:Mx}{K:Env}{w:World}{O:w9}{nx:Nat}{ρ:Operand->Value}{lk:Operand->Option SV}{v:SV}{O':w9}{w8:Nat}{dst:Option Tmp}{ty:TypeId}{pos:String}{af:Array Edge}{gd:Option (Nat×Bool)}
theorem V7(K:Env):Den K (.wM []) undef:=by
 simp only[Den,w6];exact⟨[],rfl,rfl⟩
theorem Nz{arr:Array Value}{es r c:Nat}{rs:List (List SV)}{row vs:List SV}{us:List Value}{cap:Nat}(hsz:arr.size=cap*es)(hcap:rs.length<=cap)
 (hr:∀(i:Nat) (row:List SV),rs[i]?=some row->row.length=es/\wK K arr (0+i*es) row) (hrow:rs[r]?=some row) (hd:w6 K vs us) (h1:∀u∈us,u.oneCell'=true) (hle:c+vs.length<=row.length):
 r*es+c+us.length<=arr.size/\
 ∀(i:Nat) (q:List SV),(rs.set r (row.take c++vs++row.drop (c+vs.length)))[i]?=some q->q.length=es/\wK K (arr.toList.take (r*es+c)++us++arr.toList.drop (r*es+c+us.length)).toArray (0+i*es) q:=by
 have hl:=ZU hd;have hlt:=(zf.1 hrow).1;obtain⟨tf,hrc⟩:=hr r row hrow
 have hfit:r*es+c+us.length<=arr.size:=by
  have:(r+1)*es<=cap*es:=yo _ (by omega);rw[yB]at this;omega
 refine⟨hfit,?_⟩;intro i q hi;rw[xH]at hi;split at hi
 .rename_i e;subst e;simp only[hlt,yR,zj]at hi;subst hi;refine⟨?_,?_⟩;simp only[zg,zu,zF];omega
  .have:=Ny (o:=0+r*es) hrc hd h1 hle (by rw[zy];exact hfit);simpa only[zy]using this
 .rename_i e;obtain⟨NA,hqc⟩:=hr i q hi;refine⟨NA,C3 (o:=0+i*es) hqc NA hfit ?_⟩;rcases Nat.lt_or_gt_of_ne e with h|h
  .right
   have:(r+1)*es<=i*es:=yo _ h;rw[yB]at this;omega
  .left
   have:(i+1)*es<=r*es:=yo _ h;rw[yB]at this;omega
theorem NB(A:At M K w O nx ρ lk)(t:TypeId)(x y:Operand){p sv:SV}(hsh:M.C.T.sh t≠ .other)(mu:¬M.C.T.size t=0)(hx:lk x=some p)(hy:lk y=some sv)(hr:(He M.C.T (fun i=>wu i O) t p sv).ok O nx v O' w8):Y9 M K w ⟨dst, .store t x y,ty,pos,af,gd⟩ ρ v O' w8:=by
 have wU:=A.L _ _ hx;have kR:=A.L _ _ hy;unfold He at hr;split at hr
 case h_2=>exact hr.elim
 rename_i rP i r es c;simp only[Den]at wU;obtain⟨en,hb,wU⟩:=wU;simp only[Env.get]at hb
 have step:∀{h0 h:Hp} {arr:Array Value} {tt:TypeId} {fz:Nat×Nat} {us:List Value},wu i O=some h0->w.heap[en.g]?=some (.cells arr tt fz)->VD arr.size fz->(ρ y).cells.toList=us->us.length=M.C.T.size t->
  (∀u∈us,u.oneCell'=true)->en.base+(r*es+c)+us.length<=arr.size->
  (∀w':World,w'.heap[en.g]?=some (.cells (arr.toList.take (en.base+(r*es+c))++us++arr.toList.drop (en.base+(r*es+c)+us.length)).toArray tt fz)->uZ K w' true (.loc i) h)->iC h=true->v= .wM []->O'=qh i h O->w8=nx->
  Y9 M K w ⟨dst, .store t x y,ty,pos,af,gd⟩ ρ v O' w8:=by
  intro h0 h arr tt fz us h1 h2 h3 h4 h5 h7 h8 h9 hl e1 e2 e3;subst e1 e2 e3;obtain⟨ie,hie,qw,_⟩:=A.T.info t hsh;have hst:=X2 (P:=M.P) en.g (en.base+(r*es+c)) tt fz us 0 arr w h2 (by simpa using h8) h3 h7;simp only[Nat.add_zero]at hst;refine⟨undef,w.setRow en.g _,K, .inr ⟨?_,rfl⟩,zw,A.H.fu h1 hb (fun k hk=>setRow_other w en.g k _ hk) (setRow_size _ _ _) rfl rfl rfl (h9 _ (setRow_heap w en.g arr _ tt fz h2)) (hl:=hl),V7 K,fun h=>by cases h⟩
  have hcs:(ρ y).cells.size=ie.size:=by
   have:(ρ y).cells.toList.length=M.C.T.size t:=by rw[h4,h5]
   rw[qw];simpa using this
  simp only[execOp,wU,Instr.storeAt,Instr.sureAddr,storeVar,Sem.run_bind,Sem.run_pure,Result.andThen_ok,Zv hie,Sem.run_ite,hcs];rw[z7 (by simp)];simp only[Sem.run_bind,Sem.run_pure,Result.andThen_ok,h4,hst]
 split at hr
 .rename_i row hh;obtain⟨wA,_⟩:=A.H.own.1 i _ hh;simp only[uZ]at wA;obtain⟨aB,arr,T,fz,h1,h2,h3,h4⟩:=wA;simp only[Env.get]at h1;rw[hb]at h1;injection h1 with h1;injection h1 with h1;subst h1
  split at hr
  case h_2=>exact hr.elim
  rename_i vs hz hvs;have hz:=Zs hz;subst hz;split at hr
  case h_2=>exact hr.elim
  rename_i row' hlen hsp;have hlen:=jl.1 hlen;obtain⟨rfl,hle⟩:=VE hsp;obtain⟨e1,e2,e3⟩:=hr;obtain⟨h5,h6⟩:=W3 kR hvs;have hl:=ZU h5
  have hfit:en.base+c+(ρ y).cells.toList.length<=arr.size:=by
   rw[hl];obtain⟨u,hu,_⟩:=h4 (c+vs.length-1) _ (z1 (by omega));have:=(zz.1 hu).1;omega
  refine step hh h2 (h3 trivial) rfl (by rw[hl,hlen]) h6 (by rw[yT,zy];exact hfit) ?_ rfl e1 e2 e3;intro w' hw';rw[yT,zy]at hw';simp only[uZ];refine⟨en,_,T,fz,hb,hw',fun _=>?_,Ny h4 h5 h6 hle hfit⟩
  have:(arr.toList.take (en.base+c)++(ρ y).cells.toList++arr.toList.drop (en.base+c+(ρ y).cells.toList.length)).toArray.size=arr.size:=by
   simp only[yl,zg,zu,zF,Array.length_toList]at hfit⊢;omega
  rw[this];exact h3 trivial
 .rename_i es' rs hh;obtain⟨wA,_⟩:=A.H.own.1 i _ hh;simp only[uZ]at wA;split at hr
  case h_2=>exact hr.elim
  rename_i qX;have qX:=Zs qX;subst qX;simp only[Env.get]at wA;rcases wA with⟨h1,_⟩|⟨aB,arr,T,fz,h1,h2,h3,h4⟩
  rw[hb]at h1;cases h1;rw[hb]at h1;injection h1 with h1;injection h1 with h1;subst h1
  obtain⟨HG,C4,C5,G9⟩:=h3 trivial;rw[G9]at h4 step
  have hsize:∀{o:Nat} {us:List Value},o+us.length<=arr.size->(arr.toList.take o++us++arr.toList.drop (o+us.length)).toArray.size=arr.size:=by
   intro o us h;simp only[yl,zg,zu,zF,Array.length_toList];omega
  have one:∀{hr:(match cellsOf sv with
   |some vs=>match o6 vs (M.C.T.size t)with
    |true=>wW.get rs r fun row=>match VU c row vs with
     |some row=> .fu i (.rows es (rs.set r row)) (.wM [])
     |none=> .fail
    |false=> .fail
   |none=> .fail).ok O nx v O' w8},Y9 M K w ⟨dst, .store t x y,ty,pos,af,gd⟩ ρ v O' w8:=by
   intro hr;split at hr
   case h_2=>exact hr.elim
   rename_i vs hvs;split at hr
   case h_2=>exact hr.elim
   rename_i hlen;have hlen:=jl.1 hlen;obtain⟨row,hrow,hr⟩:=hr;simp only at hr;split at hr
   case h_2=>exact hr.elim
   rename_i row' hsp;obtain⟨rfl,hle⟩:=VE hsp;obtain⟨e1,e2,e3⟩:=hr;obtain⟨h5,h6⟩:=W3 kR hvs;have hl:=ZU h5;obtain⟨hfit,hrows⟩:=Nz C4 C5 h4 hrow h5 h6 hle;refine step hh h2 HG rfl (by rw[hl,hlen]) h6 (by rw[zy];exact hfit) ?_ rfl e1 e2 e3;intro w' hw';rw[zy]at hw';simp only[uZ];right
   have hz:=hsize hfit;exact⟨en,_,T,fz,hb,hw',fun _=>⟨by rw[hz];exact HG,by rw[hz];exact C4,by simpa using C5,G9⟩,by rw[G9];exact hrows⟩
  have whole:∀{rs':List (List SV)} {us:List Value},rs'.length=rs.length->r=0->c=0->(ρ y).cells.toList=us->us.length=M.C.T.size t->wI K es rs' us->(∀u∈us,u.oneCell'=true)->v= .wM []->O'=qh i (.rows es rs') O->w8=nx->
   Y9 M K w ⟨dst, .store t x y,ty,pos,af,gd⟩ ρ v O' w8:=by
   intro rs' us q1 q2 q3 q4 q5 q6 q7 e1 e2 e3;subst q2 q3;have hl:=V6 q6
   have hfit:0+us.length<=arr.size:=by
    have:rs.length*es<=en.cap*es:=yo _ C5;rw[hl,q1];omega
   refine step hh h2 HG q4 q5 q7 (by rw[yT];exact hfit) ?_ rfl e1 e2 e3;intro w' hw';simp only[uZ];right
   have hz:=hsize hfit;simp only[yT,Nat.add_zero]at hw';refine⟨en,_,T,fz,hb,hw',fun _=>⟨by rw[hz];exact HG,by rw[hz];exact C4,by omega,G9⟩,?_⟩;rw[G9];intro k row hk;obtain⟨p1,p2⟩:=X8 q6 q7 k row hk;refine⟨p1,fun j rP hj=>?_⟩;obtain⟨u,p3,p4,p5⟩:=p2 j rP hj;refine⟨u,?_,p4,p5⟩;have hlt:=(zz.1 p3).1;simp only[List.take_zero,List.nil_append,yY];rw[zn (by simpa using hlt)];simpa using p3
  split at hr
  .rename_i n e hs;split at hr
   case h_2=>exact hr.elim
   rename_i dJ hst;have dJ:=Zs dJ;have hst:=Zs hst;split at hr
   .rename_i dH rs';obtain⟨⟨q1,q2,rfl,q3,q4⟩,e1,e2,e3⟩:=hr;simp only[Den]at kR;obtain⟨us,kR,q5,q6⟩:=kR;refine whole (us:=us) (by omega) q1 q2 (by rw[kR];rfl) ?_ q5 q6 e1 e2 e3;rw[V6 q5,q3,hst]
   .rename_i cs;split at hr
    case h_2=>exact hr.elim
    rename_i rs' hch;obtain⟨⟨q1,q2,q3⟩,e1,e2,e3⟩:=hr;simp only[Den]at kR;obtain⟨us,kR,q5,q6⟩:=kR;obtain⟨q7,q8,_⟩:=V5 hch;refine whole (us:=us) (by omega) q1 q2 (by rw[kR];rfl) ?_ (DT hch q5) q6 e1 e2 e3;rw[ZU q5,q8,hst]
   exact hr.elim
  exact one (hr:=hr)
 exact hr.elim
end
def nM:CK->SV->SV->Option Bool
 | .int k, .int k1 a, .int k2 b=>match J9 k k1&&J9 k k2 with|true=>some (a==b)|false=>none
 | .str, .str a, .str b=>some (a==b)
 | .bool, .bool a, .bool b=>some (a==b)
 |_,_,_=>none
def both:Option Bool->Option Bool->Option Bool
 |some a,some b=>some (a&&b)
 |_,_=>none
theorem Zei{a b:Option Bool}:(both a b).isSome=true<->a.isSome=true/\b.isSome=true:=by cases a<;>cases b<;>simp[both]
theorem Zej{a b:Option Bool}:both a b=some true<->a=some true/\b=some true:=by cases a<;>cases b<;>simp[both]
theorem NC{k:CK}{ks:List CK}{x y:SV}{xs ys:List SV}:Zk (k::ks) (x::xs) (y::ys)=both (nM k x y) (Zk ks xs ys):=by
 cases k with
 |int k=>
  cases x with
  |int k1 a=>
   cases y with
   |int k2 b=>
    simp only[Zk,nM];cases J9 k k1&&J9 k k2<;>cases Zk ks xs ys<;>rfl
   |_=>rfl
  |_=>rfl
 |str=>
  cases x with
  |str a=>
   cases y with
   |str b=>simp only[Zk,nM];cases Zk ks xs ys<;>rfl
   |_=>rfl
  |_=>rfl
 |bool=>
  cases x with
  |bool a=>
   cases y with
   |bool b=>simp only[Zk,nM];cases Zk ks xs ys<;>rfl
   |_=>rfl
  |_=>rfl
theorem ZgQ{k:CK}{x y:SV}(h1:(nM k x x).isSome=true)(h2:(nM k y y).isSome=true):(nM k x y).isSome=true:=by
 cases k with
 |int k=>
  cases x with
  |int k1 a=>
   cases y with
   |int k2 b=>
    simp only[nM]at h1 h2⊢;cases e1:J9 k k1<;>cases e2:J9 k k2<;>simp_all
   |_=>cases h2
  |_=>cases h1
 |str=>
  cases x with
  |str a=>cases y with
   |str b=>rfl
   |_=>cases h2
  |_=>cases h1
 |bool=>
  cases x with
  |bool a=>cases y with
   |bool b=>rfl
   |_=>cases h2
  |_=>cases h1
theorem ZcH{K:Env}{k:CK}{x y:SV}{u v:Value}(h:nM k x y=some true)(h1:Den K x u)(h2:Den K y v):u=v/\∀n,Instr.sameBits n u u=true:=by
 cases k with
 |int k=>
  cases x with
  |int k1 a=>
   cases y with
   |int k2 b=>
    simp only[nM]at h;split at h
    .rename_i hk;simp only[zk,kf]at hk;simp only[zj,x5]at h;simp only[Den]at h1 h2;obtain⟨e1,e2⟩:=hk;subst h1;subst h2;subst h;subst e1;subst e2;exact⟨rfl,fun n=>by cases n<;>simp[Instr.sameBits]⟩
    cases h
   |_=>cases h
  |_=>cases h
 |str=>
  cases x with
  |str a=>cases y with
   |str b=>
    simp only[nM,zj,x5]at h;simp only[Den]at h1 h2;subst h1;subst h2;subst h;exact⟨rfl,fun n=>by cases n<;>(show(a.toArray==a.toArray)=true;simp)⟩
   |_=>cases h
  |_=>cases h
 |bool=>
  cases x with
  |bool a=>cases y with
   |bool b=>
    simp only[nM,zj,x5]at h;simp only[Den]at h1 h2;subst h1;subst h2;subst h;exact⟨rfl,fun n=>by cases n<;>simp[Instr.sameBits]⟩
   |_=>cases h
  |_=>cases h
theorem ND:∀{ks:List CK} {xs ys:List SV},(Zk ks xs xs).isSome=true->(Zk ks ys ys).isSome=true->(Zk ks xs ys).isSome=true
 | [],xs,ys,h1,h2=>by cases xs<;>cases ys<;>simp_all[Zk]
 |k::ks,[],ys,h1,h2=>by cases k<;>simp[Zk]at h1
 |k::ks,x::xs,[],h1,h2=>by cases k<;>simp[Zk]at h2
 |k::ks,x::xs,y::ys,h1,h2=>by
  rw[NC,Zei]at h1 h2⊢;exact⟨ZgQ h1.1 h2.1,ND h1.2 h2.2⟩
theorem W6{K:Env}:∀{ks:List CK} {xs ys:List SV} {us vs:List Value},Zk ks xs ys=some true->w6 K xs us->w6 K ys vs->us=vs/\∀u∈us,∀n,Instr.sameBits n u u=true
 | [],[],[],us,vs,h,h1,h2=>by
   simp only[w6]at h1 h2;subst h1;subst h2;simp
 | [],_::_,_,us,vs,h,h1,h2=>by simp[Zk]at h
 | [],[],_::_,us,vs,h,h1,h2=>by simp[Zk]at h
 |k::ks,[],ys,us,vs,h,h1,h2=>by cases k<;>simp[Zk]at h
 |k::ks,x::xs,[],us,vs,h,h1,h2=>by cases k<;>simp[Zk]at h
 |k::ks,x::xs,y::ys,us,vs,h,h1,h2=>by
  rw[NC,Zej]at h;simp only[w6]at h1 h2;obtain⟨u,us,rfl,a1,a2⟩:=h1;obtain⟨v,vs,rfl,b1,b2⟩:=h2;obtain⟨e1,s1⟩:=ZcH h.1 a1 b1;obtain⟨e2,s2⟩:=W6 h.2 a2 b2;subst e1;subst e2;exact⟨rfl,fun w hw=>by rcases zK.1 hw with rfl|hw;exact s1;exact s2 w hw⟩
theorem NF{p:Nat->Value->Value->Bool}{n:Nat}:∀{l:List Value},(∀u∈l,p n u u=true)->((l.zip l).all fun(x,y)=>p n x y)=true
 | [],_=>rfl
 |u::us,h=>by simp only[List.zip_cons_cons,List.all_cons,zk];exact⟨h u (by simp),NF fun w hw=>h w (by simp[hw])⟩
theorem HH{K:Env}{ks:Bool×List CK}{a b:SV}{u v:Value}(h:nJ ks a b=true)(h1:Den K a u)(h2:Den K b v):u=v/\Instr.sameBits 10000 u u=true:=by
 obtain⟨f,ks⟩:=ks
 have hq:Uo (f,ks) a b=some true:=by
  unfold nJ at h;cases hq:Uo (f,ks) a b with
  |none=>rw[hq]at h;cases h
  |some r=>rw[hq]at h;exact ze some h
 cases f with
 |false=>
  simp only[Uo,Yg]at hq;obtain⟨e,s⟩:=W6 hq (show w6 K [a] [u]from by simp only[w6];exact⟨u,[],rfl,h1,rfl⟩) (show w6 K [b] [v]from by simp only[w6];exact⟨v,[],rfl,h2,rfl⟩);exact⟨by simpa using e,s u (by simp) _⟩
 |true=>
  cases a with
  |agg xs=>
   cases b with
   |agg ys=>
    simp only[Uo,Yg]at hq;simp only[Den]at h1 h2;obtain⟨us,rfl,h1,_⟩:=h1;obtain⟨vs,rfl,h2,_⟩:=h2;obtain⟨e,s⟩:=W6 hq h1 h2;subst e;refine⟨rfl,?_⟩;show(us.toArray.size==us.toArray.size&& (us.toArray.toList.zip us.toArray.toList).all fun(x,y)=>Instr.sameBits 9999 x y)=true
    simp only[beq_self_eq_true,vo];exact NF fun w hw=>s w (by simpa using hw) _
   |_=>simp[Uo,Yg]at hq
  |_=>simp[Uo,Yg]at hq
theorem ZcI{ks:Bool×List CK}{a b:SV}(h1:Vz ks a=true)(h2:Vz ks b=true):∃r,Uo ks a b=some r:=by
 obtain⟨f,ks⟩:=ks;simp only[Vz,Uo]at h1 h2⊢;cases ha:Yg f a with
 |none=>rw[ha]at h1;cases h1
 |some xs=>
  cases hb:Yg f b with
  |none=>rw[hb]at h2;cases h2
  |some ys=>
   rw[ha]at h1;rw[hb]at h2;exact vR.1 (ND h1 h2)
def mw(K:Env):List (List SV)->List MapEntry->Prop
 | [],[]=>True
 |r::rs,e::es=>w6 K r [e.key,e.val]/\mw K rs es
 |_,_=>False
theorem iE{K:Env}:∀{rs:List (List SV)} {es:List MapEntry} {i:Nat},es.length=rs.length->(∀j row,rs[j]?=some row->∃en:MapEntry,es[j]?=some en/\en.born=i+j/\w6 K row [en.key,en.val])->mw K rs es
 | [],[],_,_,_=>trivial
 | [],_::_,_,h,_=>by simp at h
 |_::_,[],_,h,_=>by simp at h
 |r::rs,e::es,i,hl,h=>by
  obtain⟨en,h1,_,h3⟩:=h 0 r rfl;simp at h1;subst h1
  exact⟨h3,iE (i:=i+1) (by simpa using hl) fun j row hr=>by
   obtain⟨en,g1,g2,g3⟩:=h (j+1) row (by simpa using hr)
   exact⟨en,by simpa using g1,by omega,g3⟩⟩
def C6(K:Env):Option (Nat×SV)->Option (Nat×Value)->Prop
 |none,f=>f=none
 |some (j,v),f=> ∃x,f=some (j,x)/\Den K v x
theorem NG{P:Program}{T:kE}(hT:qa P T){t:TypeId}{ks:Bool×List CK}(ht:T.key t=some ks){K:Env}{w:World}{key:SV}{u:Value}(hk:Vz ks key=true)(hu:Den K key u):
 ∀{rs:List (List SV)} {es:List MapEntry} {i:Nat},V3 ks rs->mw K rs es->∃f,(Instr.findAsking t u es i).run P w= .ok f w/\(∀d,P.underlying t=some d->Instr.findNow d u es i=none\/Instr.findNow d u es i=some f)/\C6 K (U6 ks key i rs) f/\∀j x,f=some (j,x)->i<=j/\∃e,es[j-i]?=some e/\e.val=x
 | [],[],i,_,_=>⟨none,by simp[Instr.findAsking],fun d _=> .inr rfl,rfl,fun _ _ h=>by cases h⟩
 | [],_::_,_,_,h=>h.elim
 |_::_,[],_,_,h=>h.elim
 |r::rs,e::es,i,ho,h=>by
  obtain⟨k,v,rfl,dK⟩:=ho r (by simp);obtain⟨hd,hr⟩:=h;simp only[w6]at hd;obtain⟨_,_,e1,hdk,_,_,e2,mz,e3⟩:=hd;cases e1;cases e2
  obtain⟨b,hb⟩:=ZcI hk dK;obtain⟨g1,g2⟩:=(hT.key t ks ht).2.1 w K key k u e.key b hb hu hdk;have NH:nJ ks key k=b:=by simp only[nJ,hb]
  cases b with
  |true=>
   refine⟨some (i,e.val),by simp[Instr.findAsking,g1],fun d hd=>?_,?_,fun j x h=>?_⟩;rcases g2 d hd with h|h<;>simp[Instr.findNow,h]
   simp only[U6,NH];exact⟨_,rfl,mz⟩
   .simp only[zj,yF]at h;obtain⟨rfl,rfl⟩:=h;exact⟨zo _,e,by simp,rfl⟩
  |false=>
   obtain⟨f,f1,f2,f3,f4⟩:=NG hT ht hk hu (i:=i+1) (rs:=rs) (es:=es) (fun r hr=>ho r (by simp[hr])) hr;refine⟨f,by simp[Instr.findAsking,g1];exact f1,fun d hd=>?_,?_,fun j x h=>?_⟩
   .rcases g2 d hd with h|h
    simp[Instr.findNow,h];simp only[Instr.findNow,h];exact f2 d hd
   simp only[U6,NH];exact f3
   .obtain⟨h1,e',h2,h3⟩:=f4 j x h;refine⟨by omega,e',?_,h3⟩;rw[show j-i=(j-(i+1))+1 by omega];simpa using h2
theorem VF{P:Program}{T:kE}(hT:qa P T){t:TypeId}{ks:Bool×List CK}(ht:T.key t=some ks){K:Env}{w:World}{key:SV}{u:Value}(hk:Vz ks key=true)(hu:Den K key u)
 {rs:List (List SV)} {es:List MapEntry} (ho:V3 ks rs) (hm:mw K rs es):∃f,(Instr.findKey t u es).run P w= .ok f w/\C6 K (U6 ks key 0 rs) f/\∀j x,f=some (j,x)->∃e,es[j]?=some e/\e.val=x:=by
 obtain⟨f,f1,f2,f3,f4⟩:=NG hT ht hk hu (i:=0) (w:=w) ho hm;obtain⟨d,hd⟩:=(hT.key t ks ht).2.2;refine⟨f,?_,f3,fun j x h=>by simpa using(f4 j x h).2⟩;rcases f2 d hd with h|h
 simp[Instr.findKey,Z8 hd,h,f1];simp[Instr.findKey,Z8 hd,h]
theorem Ur{P:Program}{T:kE}(hT:qa P T){t:TypeId}{ks:Bool×List CK}(ht:T.key t=some ks){K:Env}{w:World}{key:SV}{u:Value}(hk:Vz ks key=true)(hu:Den K key u)
 {rs:List (List SV)} {es:List MapEntry} (ho:V3 ks rs) (hm:mw K rs es):∃f,(Instr.findKey t u es).run P w= .ok f w/\C6 K (U6 ks key 0 rs) f:=
 let⟨f,h1,h2,_⟩:=VF hT ht hk hu ho hm;⟨f,h1,h2⟩
theorem WC{ks:Bool×List CK}{key:SV}:∀{rs:List (List DC)} {i:Nat},U6 ks key i (ZB rs)=(findD ks key i rs).map fun p=>(p.1,ZT p.2)
 | [],_=>rfl
 |r::rs,i=>by
  have ih:=WC (ks:=ks) (key:=key) (rs:=rs) (i:=i+1);unfold ZB at ih⊢
  match r with
  | []=>rfl
  | [a]=>rfl
  |a::b::c::l=>rfl
  | [k,v]=>
    simp only[zI,yH,U6,findD];cases nJ ks key (ZT k)
    exact ih
    rfl
theorem HI{ks:Bool×List CK}{key:SV}:∀{rs:List (List DC)} {i j:Nat} {v:DC},findD ks key i rs=some (j,v)->∃k,i<=j/\rs[j-i]?=some [k,v]/\nJ ks key (ZT k)=true
 | [],i,j,v,h=>by simp[findD]at h
 |r::rs,i,j,v,h=>by
  unfold findD at h;split at h
  .rename_i k u;split at h
   .rename_i hk;simp only[zj,yF]at h;obtain⟨rfl,rfl⟩:=h;exact⟨k,zo _,by simp,hk⟩
   .obtain⟨k',h1,h2,h3⟩:=HI h;refine⟨k',by omega,?_,h3⟩;have:j-i=(j-(i+1))+1:=by omega
    rw[this];simpa using h2
  cases h
def q9(rs:List (List DC))(r c:Nat)(d:DC):List (List DC):=rs.modify r fun row=>row.set c d
theorem Ys{rs:List (List DC)}{r c:Nat}{d:DC}(i:Nat):(q9 rs r c d)[i]?=if i=r then(rs[i]?).map (fun row=>row.set c d)else rs[i]?:=by
 unfold q9;rw[yp];by_cases h:r=i
 subst h;simp;rw[z7 (fun e=>h e.symm)];simp[h]
theorem wN{rs:List (List DC)}{i j es:Nat}{rows:List (List SV)}:Yl rs i j=some (es,rows)<->∃row,rs[i]?=some row/\row[j]?=some (.wZ es rows):=by
 unfold Yl;constructor
 .intro h;split at h
  .rename_i row hr;split at h
   .rename_i es' rows' hc;simp only[zj,yF]at h;obtain⟨rfl,rfl⟩:=h;exact⟨row,hr,hc⟩
   cases h
  cases h
 .rintro⟨row,hr,hc⟩;rw[hr];simp only[hc]
theorem XJ{rs:List (List DC)}{r c:Nat}{d:DC}{i j:Nat}{x:Nat×List (List SV)}(h:Yl (q9 rs r c d) i j=some x):Yl rs i j=some x\/(i=r/\j=c/\d= .wZ x.1 x.2):=by
 obtain⟨es,rows⟩:=x;obtain⟨row,hr,hc⟩:=wN.1 h;rw[Ys]at hr;by_cases hi:i=r
 .subst hi;rw[zh rfl]at hr;obtain⟨bL,h0,rfl⟩:=zB.1 hr;rw[xH]at hc;by_cases hj:c=j
  .subst hj;rw[zh rfl]at hc;split at hc
   .injection hc with hc;exact .inr ⟨rfl,rfl,hc⟩
   cases hc
  .rw[z7 hj]at hc;exact .inl (wN.2 ⟨bL,h0,hc⟩)
 .rw[z7 hi]at hr;exact .inl (wN.2 ⟨row,hr,hc⟩)
theorem JY{rs:List (List DC)}{r c:Nat}{sv:SV}{i j:Nat}{x:Nat×List (List SV)}(h:Yl (q9 rs r c (.v sv)) i j=some x):Yl rs i j=some x/\¬(i=r/\j=c):=by
 refine⟨(XJ h).elim id (fun h=>by cases h.2.2),?_⟩;rintro⟨rfl,rfl⟩;obtain⟨es,rows⟩:=x;obtain⟨row,hr,hc⟩:=wN.1 h;rw[Ys,zh rfl]at hr;obtain⟨bL,h0,rfl⟩:=zB.1 hr;rw[xH,zh rfl]at hc;split at hc
 cases hc
 cases hc
theorem Yb{rs:List (List DC)}{i:Nat}:(ZB rs)[i]?=(rs[i]?).map fun r=>r.map ZT:=by unfold ZB;rw[z6]
theorem Yc{rs:List (List DC)}:(ZB rs).length=rs.length:=by unfold ZB;rw[zA]
theorem WD{rs:List (List DC)}{r c:Nat}{d:DC}(i:Nat):(ZB (q9 rs r c d))[i]?=if i=r then((ZB rs)[i]?).map (fun row=>row.set c (ZT d))else(ZB rs)[i]?:=by
 rw[Yb,Ys,Yb];split
 cases rs[i]?<;>simp[xQ]
 rfl
theorem C7{rs:List (List DC)}{r c:Nat}{d:DC}:(q9 rs r c d).length=rs.length:=by unfold q9;rw[uA]
section
variable {M:Mx}{K:Env}{w w':World}{O:w9}{nx:Nat}
def NI(K:Env)(w:World)(own:Bool)(b:qP)(mp:Bool)(es:Nat)(fs:List (List SV)):Prop:=match mp with|true=>eF K w b fs|false=>qm K w own b es fs
theorem W7{own:Bool}{b:qP}{mp:Bool}{es:Nat}{rs:List (List DC)}(d:uZ K w own b (.deep mp es rs)){r c:Nat}{row:List DC}{dc:DC}(hr:rs[r]?=some row)(hc:row[c]?=some dc):
 ∃e o v,K.get b=some (some e)/\w.heap[e.g]?=some o/\ZJ o es r c=some v/\Den K (ZT dc) v/\kG K w e.g o es rs:=by
 have hfr:(ZB rs)[r]?=some (row.map ZT):=by rw[Yb,hr];rfl
 have iF:(row.map ZT)[c]?=some (ZT dc):=by rw[z6,hc];rfl
 cases mp
 .simp only[uZ]at d;obtain⟨d1,d2⟩:=d;rcases d1 with⟨_,h2⟩|⟨e,arr,T,fz,h1,h2,h3,h4⟩
  rw[h2]at hfr;cases hfr;obtain⟨h5,h6⟩:=d2 e h1;obtain⟨v,h7,_,h8⟩:=(h4 r _ hfr).2 c _ iF;rw[h5,zy]at h7;exact⟨e,_,v,h1,h2,h7,h8,h6 _ h2⟩
 .simp only[uZ]at d;obtain⟨⟨d1,d0⟩,d2⟩:=d;obtain⟨e,qi,h1,h2,h3,h4,h5⟩:=d1;obtain⟨_,h6⟩:=d2 e h1;obtain⟨en,g1,_,g3⟩:=h5 r _ hfr;obtain⟨v,hv,hd⟩:=Xx g3 iF;refine⟨e,_,v,h1,h3,?_,hd,h6 _ h3⟩;simp only[ZJ,g1,Option.map_some]
  match c,hv with
  |0,hv=>simpa using hv
  |1,hv=>simpa using hv
  |c+2,hv=>simp at hv
theorem C8{own:Bool}{b:qP}{mp:Bool}{es:Nat}{rs:List (List DC)}(d:uZ K w own b (.deep mp es rs)){η':Env}(hp:K<+:η'){r c:Nat}{dc:DC}
 (hv:∀e o v,K.get b=some (some e)->w.heap[e.g]?=some o->ZJ o es r c=some v->Den η' (ZT dc) v):
 NI η' w own b mp es (ZB (q9 rs r c dc)):=by
 cases mp
 .simp only[uZ]at d;obtain⟨d1,d2⟩:=d;rcases d1 with⟨h1,h2⟩|⟨e,arr,T,fz,h1,h2,h3,h4⟩
  .refine .inl ⟨Env.wE hp h1,?_⟩;apply zJ.1;rw[Yc,C7,<-Yc,h2];rfl
  .refine .inr ⟨e,arr,T,fz,Env.wE hp h1,h2,by rw[Yc,C7,<-Yc];exact h3,fun i row hr=>?_⟩;rw[WD]at hr;obtain⟨h5,_⟩:=d2 e h1;split at hr
   .rename_i hi;subst hi;obtain⟨bL,h0,rfl⟩:=zB.1 hr;obtain⟨g1,g2⟩:=h4 i bL h0;refine⟨by rw[xE];exact g1,fun j sv hj=>?_⟩;rw[xH]at hj;split at hj
    .rename_i hcj;subst hcj;split at hj
     .rename_i hlt;injection hj with hj;subst hj;obtain⟨v,k1,k2,_⟩:=g2 c _ (z1 hlt);refine⟨v,k1,k2,hv e _ v h1 h2 ?_⟩;rw[h5,zy]at k1;exact k1
     cases hj
    .obtain⟨v,k1,k2,k3⟩:=g2 j sv hj;exact⟨v,k1,k2,k3.mono hp⟩
   exact⟨(h4 i row hr).1,(h4 i row hr).2.mono hp⟩
 .simp only[uZ]at d;obtain⟨⟨d1,d0⟩,d2⟩:=d;obtain⟨e,qi,h1,h2,h3,h4,h5⟩:=d1;refine⟨e,qi,Env.wE hp h1,h2,h3,by rw[Yc,C7,<-Yc];exact h4,fun i row hr=>?_⟩;rw[WD]at hr;split at hr
  .rename_i hi;subst hi;obtain⟨bL,h0,rfl⟩:=zB.1 hr;obtain⟨en,g1,g2,g3⟩:=h5 i bL h0;refine⟨en,g1,g2,?_⟩;have rQ:=fun v (hc:ZJ (.map qi qi.size) es i c=some v)=>hv e _ v h1 h3 hc;simp only[ZJ,g1,Option.map_some,zj]at rQ;have g3:=g3.mono hp
   match bL,c,rQ,g3 with
   | [],c,_,g3=>simpa using g3
   | [a],0,rQ,g3=>simp[w6]at g3
   |a::b::l,0,rQ,g3=>
    simp only[List.set_cons_zero,w6]at g3⊢;obtain⟨u,us,q1,q2,q3⟩:=g3;injection q1 with q1 iG;subst q1 iG;exact⟨_,_,rfl,rQ _ rfl,q3⟩
   | [a],c+1,rQ,g3=>simp[w6]at g3
   |a::b::l,1,rQ,g3=>
    simp only[List.set_cons_succ,List.set_cons_zero,w6]at g3⊢;obtain⟨u,us,q1,q2,u',us',q3,q4,q5⟩:=g3;injection q1 with q1 iG;subst q1 iG;injection q3 with q3 C9;subst q3 C9;exact⟨_,_,rfl,q2,_,_,rfl,rQ _ rfl,q5⟩
   |a::b::l,c+2,rQ,g3=>
    have:(a::b::l).set (c+2) (ZT dc)=a::b::l:=by
     simp only[w6]at g3;obtain⟨u,us,q1,q2,u',us',q3,q4,q5⟩:=g3;injection q1 with q1 iG;subst q1 iG;injection q3 with q3 C9;subst q3 C9;cases l with
     |nil=>rfl
     |cons x l=>simp[w6]at q5
    rw[this];exact g3
  .obtain⟨en,g1,g2,g3⟩:=h5 i row hr;exact⟨en,g1,g2,g3.mono hp⟩
theorem uZ.qZ{own:Bool}{b:qP}{mp:Bool}{es:Nat}{rs:List (List DC)}(d:uZ K w own b (.deep mp es rs)):(∃x,K.get b=some x)/\qt K w b es rs/\(mp=true->es=2):=by
 cases mp
 .simp only[uZ]at d;exact⟨let⟨x,h,_⟩:=d.1.pX;⟨x,h⟩,d.2,fun h=>by cases h⟩
 .simp only[uZ]at d;exact⟨let⟨x,h,_⟩:=d.1.1.pX;⟨x,h⟩,d.2,fun _=>d.1.2⟩
theorem uZ.jF{own:Bool}{b:qP}{mp:Bool}{es:Nat}{rs:List (List DC)}(h:NI K w own b mp es (ZB rs))(h0:mp=true->es=2)(h2:qt K w b es rs):uZ K w own b (.deep mp es rs):=by
 cases mp
 simp only[uZ];exact⟨h,h2⟩;simp only[uZ];exact⟨⟨h,h0 rfl⟩,h2⟩
theorem uY.take(H:uY M K w O nx){i:Nat}{mp:Bool}{es:Nat}{rs:List (List DC)}(hi:wu i O=some (.deep mp es rs)){r c es':Nat}{row:List DC}{rows:List (List SV)}(hr:rs[r]?=some row)(hc:row[c]?=some (.wZ es' rows)):
 ∃x,uY M (K++ [x]) w ((nx, .rows es' rows)::qh i (.deep mp es (q9 rs r c (.v (.sl (.loc nx) 0 es' rows.length none)))) O) (nx+1):=by
 obtain⟨wA,hF⟩:=H.own.1 i _ hi;obtain⟨e,o,v,he,ho,hv,_,hK⟩:=W7 wA hr hc;have kg:Yl rs r c=some (es',rows):=wN.2 ⟨row,hr,hc⟩;obtain⟨v',HJ,hks,Ca⟩:=hK.sat r c es' rows kg;rw[hv]at HJ;injection HJ with HJ;subst HJ
 have iH:∀k,v.ownBlock=some k->wq K w (.loc i) (.deep mp es rs) k:=fun k hk=>⟨e,he, .inr (by simp only[wZ];exact⟨o,r,c,_,v,ho,kg,hv,hk⟩)⟩;obtain⟨_,hD,h0⟩:=wA.qZ;have hsome:(wu i O).isSome:=by rw[hi];rfl
 obtain⟨x,hx,K5,hnew,eU⟩:∃x:Option kM,(∀e',x=some e'->v.ownBlock=some e'.g)/\(∀e',x=some e'->e'.g<w.heap.size)/\uZ (K++ [x]) w true (.loc nx) (.rows es' rows)/\Den (K++ [x]) (.sl (.loc nx) 0 es' rows.length none) v:=by
  rcases hks with⟨rfl,rfl⟩|⟨g,cap,arr,T,fz,rfl,k2,k3,k4,k5,k6⟩
  .refine⟨none,(fun e' h=>by cases h),(fun e' h=>by cases h),?_,?_⟩;simp only[uZ];exact .inl ⟨ZR H.len _,trivial⟩;simp only[Den];exact .inl ⟨ZR H.len _,trivial,rfl⟩
  .refine⟨some ⟨g,0,cap⟩,fun e' h=>by injection h with h;subst h;rfl,fun e' h=>by injection h with h;subst h;exact(zz.1 k2).1,?_,?_⟩
   .simp only[uZ];exact .inr ⟨_,arr,T,fz,ZR H.len _,k2,fun _=>⟨k3,k4,k5,rfl⟩,fun j row hj=>⟨(k6 j row hj).1,(k6 j row hj).2.mono (zC _ _)⟩⟩
   .simp only[Den];exact .inr ⟨_,0,ZR H.len _,by simp,by simpa using k5,by simp,fun _=>by simp⟩
 have hp:K<+:K++ [x]:=zC _ _;have NJ:(K++ [x]).get (.loc i)=some (some e):=Env.wE hp he
 have hsi:uZ (K++ [x]) w true (.loc i) (.deep mp es (q9 rs r c (.v (.sl (.loc nx) 0 es' rows.length none)))):=by
  refine uZ.jF (C8 wA hp fun e' o' v' h1 h2 h3=>?_) h0 fun e' h1=>?_
  .rw[he]at h1;injection h1 with h1;injection h1 with h1;subst h1
   rw[ho]at h2;injection h2 with h2;subst h2
   rw[hv]at h3;injection h3 with h3;subst h3
   exact eU
  .rw[NJ]at h1;injection h1 with h1;injection h1 with h1;subst h1
   refine⟨(hD e he).1,fun o' h2=>?_⟩;rw[ho]at h2;injection h2 with h2;subst h2
   have hK:=hK.mono hp;exact⟨fun a b dH cq hk=>hK.sat a b dH cq (JY hk).1,fun a b a' b' y y' u u' k h1 h2=>hK.ne a b a' b' y y' u u' k (JY h1).1 (JY h2).1⟩
 have back:∀j g,wu j O=some g->∀k,wq (K++ [x]) w (.loc j) g k->wq K w (.loc j) g k:=fun j g hj k f=>H.stands hp hj (fun _ _=>rfl) f
 have eG:∀k,wq (K++ [x]) w (.loc i) (.deep mp es (q9 rs r c (.v (.sl (.loc nx) 0 es' rows.length none)))) k->wq K w (.loc i) (.deep mp es rs) k/\v.ownBlock≠some k:=by
  intro k f;rcases f.of NJ with rfl|f
  exact⟨wq.own he,Ca⟩
  .simp only[wZ]at f;obtain⟨o',a,b,y,u,f1,f2,f3,f4⟩:=f;rw[ho]at f1;injection f1 with f1;subst f1
   obtain⟨f5,f6⟩:=JY f2;refine⟨⟨e,he, .inr (by simp only[wZ];exact⟨o,a,b,y,u,ho,f5,f3,f4⟩)⟩,fun hk=>f6 ?_⟩;exact hK.ne a b r c y _ u v k f5 kg f3 hv f4 hk
 have iI:∀k,wq (K++ [x]) w (.loc nx) (.rows es' rows) k->v.ownBlock=some k:=by
  intro k f;obtain⟨e',f1,f2⟩:=f;rw[ZR H.len]at f1;injection f1 with f1;subst f1
  rcases f2 with rfl|f2
  exact hx _ rfl;exact f2.elim
 refine⟨x,{pre:=H.pre.trans hp,len:=by simp[H.len],qN:=H.qN,fr:=H.fr,own:=⟨?_,?_⟩}⟩
 .intro j g hj;rw[Za]at hj;split at hj
  .rename_i hq;subst hq;injection hj with hj;subst hj
   exact⟨hnew,fun k f=>hF k (iH k (iI k f))⟩
  .rw[Y0 i _ O j hsome]at hj;split at hj
   .rename_i hq;subst hq;injection hj with hj;subst hj
    exact⟨hsi,fun k f=>hF k (eG k f).1⟩
   exact⟨(H.own.1 j g hj).1.mono hp,fun k f=>(H.own.1 j g hj).2 k (back j g hj k f)⟩
 .intro j k g g' m hj hk hne f f';rw[Za]at hj hk;rw[Y0 i _ O _ hsome]at hj hk;split at hj
  .rename_i hq;subst hq;injection hj with hj;subst hj
   rw[z7 (yX hne)]at hk;have f:=iI m f;split at hk
   .rename_i hq;subst hq;injection hk with hk;subst hk
    exact(eG m f').2 f
   .rename_i hki;exact H.own.2 i k _ g' m hi hk (yX hki) (iH m f) (back k g' hk m f')
  .split at hk
   .rename_i hq;subst hq;injection hk with hk;subst hk
    have f':=iI m f';split at hj
    .rename_i hq;subst hq;injection hj with hj;subst hj
     exact(eG m f).2 f'
    .rename_i hji;exact H.own.2 i j _ g m hi hj (yX hji) (iH m f') (back j g hj m f)
   .split at hj
    .rename_i hq;subst hq;injection hj with hj;subst hj
     rw[z7 (yX hne)]at hk;exact H.own.2 j k _ g' m hi hk hne (eG m f).1 (back k g' hk m f')
    .split at hk
     .rename_i hq;subst hq;injection hk with hk;subst hk
      exact H.own.2 j k g _ m hj hi hne (back j g hj m f) (eG m f').1
     exact H.own.2 j k g g' m hj hk hne (back j g hj m f) (back k g' hk m f')
theorem uY.dZ(H:uY M K w O nx){i:Nat}{mp:Bool}{es:Nat}{rs:List (List DC)}(hi:wu i O=some (.deep mp es rs)){r c k es' n:Nat}{row:List DC}{rows:List (List SV)}(hr:rs[r]?=some row)(hc:row[c]?=some (.v (.sl (.loc k) 0 es' n none)))
 (hk:wu k O=some (.rows es' rows)) (hn:n<=rows.length) (hki:k≠i):uY M K w (qy k (qh i (.deep mp es (q9 rs r c (.wZ es' (rows.take n)))) O)) nx:=by
 obtain⟨wA,hF⟩:=H.own.1 i _ hi;obtain⟨hsk,Ga⟩:=H.own.1 k _ hk;obtain⟨e,o,v,he,ho,hv,mz,hK⟩:=W7 wA hr hc;obtain⟨_,hD,h0⟩:=wA.qZ;have hsome:(wu i O).isSome:=by rw[hi];rfl
 have hks:qz K w v es' (rows.take n)/\∀g,v.ownBlock=some g->wq K w (.loc k) (.rows es' rows) g:=by
  simp only[ZT,Den]at mz;simp only[uZ]at hsk;rcases mz with⟨h1,rfl,rfl⟩|⟨en,q,h1,rfl,h3,h4,h5⟩
  exact⟨.inl ⟨rfl,by simp⟩,fun g h=>by cases h⟩
  .rcases hsk with⟨h6,_⟩|⟨aB,arr,T,fz,h6,h7,h8,h9⟩
   rw[h1]at h6;cases h6;rw[h1]at h6;injection h6 with h6;injection h6 with h6;subst h6
   obtain⟨g1,g2,g3,g4⟩:=h8 trivial;have hq:=h5 (.inr trivial);rw[g4]at hq h9;simp only[yT,Nat.add_zero]at hq;subst hq;have hl:(rows.take n).length=n:=by rw[zu];omega
   refine⟨.inr ⟨en.g,en.cap,arr,T,fz,by rw[hl];simp,h7,g1,g2,by rw[hl];omega,fun j q hj=>?_⟩,fun g h=>?_⟩
   .rw[zQ]at hj;split at hj
    exact h9 j q hj;cases hj
   .simp only[Value.ownBlock,zj]at h;subst h;exact wq.own h1
 obtain⟨hks,HK⟩:=hks
 have Cb:Yl rs r c=none:=by
  cases hq:Yl rs r c with
  |none=>rfl
  |some x=>
   obtain⟨a,b⟩:=x;obtain⟨row',q1,q2⟩:=wN.1 hq;rw[hr]at q1;injection q1 with q1;subst q1
   rw[hc]at q2;cases q2
 have iJ:∀a b y u g,Yl rs a b=some y->ZJ o es a b=some u->u.ownBlock=some g->wq K w (.loc i) (.deep mp es rs) g:=fun a b y u g h1 h2 h3=>⟨e,he, .inr (by simp only[wZ];exact⟨o,a,b,y,u,ho,h1,h2,h3⟩)⟩;have Ca:v.ownBlock≠some e.g:=fun h=>H.own.2 k i _ _ e.g hk hi hki (HK _ h) (wq.own he)
 have hsi:uZ K w true (.loc i) (.deep mp es (q9 rs r c (.wZ es' (rows.take n)))):=by
  refine uZ.jF (C8 (dc:= .wZ es' (rows.take n)) wA zw fun _ _ _ _ _ _=>trivial) h0 fun e' h1=>?_;rw[he]at h1;injection h1 with h1;injection h1 with h1;subst h1
  refine⟨(hD e he).1,fun o' h2=>?_⟩;rw[ho]at h2;injection h2 with h2;subst h2
  refine⟨fun a b dH cq dA=>?_,fun a b a' b' y y' u u' g h1 h2 h3 h4 h5 h6=>?_⟩
  .rcases XJ dA with h|⟨rfl,rfl,h⟩
   exact hK.sat a b _ _ h
   .injection h with q1 q2;subst q1 q2;exact⟨v,hv,hks,Ca⟩
  .rcases XJ h1 with q|⟨rfl,rfl,q⟩
   .rcases XJ h2 with q'|⟨rfl,rfl,q'⟩
    exact hK.ne a b a' b' y y' u u' g q q' h3 h4 h5 h6
    .rw[hv]at h4;injection h4 with h4;subst h4
     exact(H.own.2 k i _ _ g hk hi hki (HK _ h6) (iJ a b y u g q h3 h5)).elim
   .rcases XJ h2 with q'|⟨rfl,rfl,q'⟩
    .rw[hv]at h3;injection h3 with h3;subst h3
     exact(H.own.2 k i _ _ g hk hi hki (HK _ h5) (iJ a' b' y' u' g q' h4 h6)).elim
    exact⟨rfl,rfl⟩
 have eG:∀m,wq K w (.loc i) (.deep mp es (q9 rs r c (.wZ es' (rows.take n)))) m->wq K w (.loc i) (.deep mp es rs) m\/wq K w (.loc k) (.rows es' rows) m:=by
  intro m f;rcases f.of he with rfl|f
  exact .inl (wq.own he)
  .simp only[wZ]at f;obtain⟨o',a,b,y,u,f1,f2,f3,f4⟩:=f;rw[ho]at f1;injection f1 with f1;subst f1
   rcases XJ f2 with q|⟨rfl,rfl,q⟩
   exact .inl (iJ a b y u m q f3 f4)
   .rw[hv]at f3;injection f3 with f3;subst f3
    exact .inr (HK m f4)
 have aux:∀(j:Nat) (g:Hp),wu j (qy k (qh i (.deep mp es (q9 rs r c (.wZ es' (rows.take n)))) O))=some g->j≠k/\wu j (qh i (.deep mp es (q9 rs r c (.wZ es' (rows.take n)))) O)=some g:=fun j g h=>by
  by_cases hj:j=k
  subst hj;rw[Yh]at h;cases h;exact⟨hj,by rwa [XZ k _ j hj]at h⟩
 refine{pre:=H.pre,len:=H.len,qN:=H.qN,fr:=H.fr,own:=⟨?_,?_⟩}
 .intro j g hj
  replace hj:=(aux j g hj).2
  rw[Y0 i _ O j hsome]at hj;split at hj
  .rename_i hq;subst hq;injection hj with hj;subst hj
   exact⟨hsi,fun m f=>(eG m f).elim (hF m) (Ga m)⟩
  exact H.own.1 j g hj
 .intro j j' g g' m hj hj' hne f f';have hjk:=(aux j g hj).1;have Cc:=(aux j' g' hj').1
  replace hj:=(aux j g hj).2
  replace hj':=(aux j' g' hj').2
  rw[Y0 i _ O _ hsome]at hj hj';split at hj
  .rename_i hq;subst hq;injection hj with hj;subst hj
   rw[z7 (yX hne)]at hj';rcases eG m f with f|f
   exact H.own.2 j j' _ g' m hi hj' hne f f';exact H.own.2 k j' _ g' m hk hj' (yX Cc) f f'
  .split at hj'
   .rename_i hq;subst hq;injection hj' with hj';subst hj'
    rcases eG m f' with f'|f'
    exact H.own.2 j j' g _ m hj hi hne f f';exact H.own.2 j k g _ m hj hk hjk f f'
   exact H.own.2 j j' g g' m hj hj' hne f f'
theorem uY.iK(H:uY M K w O nx){i:Nat}{mp:Bool}{es:Nat}{rs:List (List DC)}(hi:wu i O=some (.deep mp es rs)){r c es':Nat}{row:List DC}(hr:rs[r]?=some row)(hc:row[c]?=some (.v (.val (.slice none 0 0)))):
 uY M K w (qh i (.deep mp es (q9 rs r c (.wZ es' []))) O) nx:=by
 obtain⟨wA,hF⟩:=H.own.1 i _ hi;obtain⟨e,o,v,he,ho,hv,mz,hK⟩:=W7 wA hr hc;obtain⟨_,hD,h0⟩:=wA.qZ;have kH:v= .slice none 0 0:=mz.1;subst kH
 have back:∀{a b y u g},Yl (q9 rs r c (.wZ es' [])) a b=some y->ZJ o es a b=some u->u.ownBlock=some g->Yl rs a b=some y:=by
  intro a b y u g h1 h2 h3;rcases XJ h1 with q|⟨rfl,rfl,q⟩
  exact q;rw[hv]at h2;injection h2 with h2;subst h2;cases h3
 refine H.oE hi he (fun _ _=>rfl) rfl rfl rfl rfl ?_ (zo _) fun m f=>?_
 .refine uZ.jF (C8 (dc:= .wZ es' []) wA zw fun _ _ _ _ _ _=>trivial) h0 fun e' h1=>?_;rw[he]at h1;injection h1 with h1;injection h1 with h1;subst h1
  refine⟨(hD e he).1,fun o' h2=>?_⟩;rw[ho]at h2;injection h2 with h2;subst h2
  refine⟨fun a b dH cq dA=>?_,fun a b a' b' y y' u u' g h1 h2 h3 h4 h5 h6=>hK.ne a b a' b' y y' u u' g (back h1 h3 h5) (back h2 h4 h6) h3 h4 h5 h6⟩;rcases XJ dA with h|⟨rfl,rfl,h⟩
  exact hK.sat a b _ _ h
  .injection h with q1 q2;subst q1 q2;exact⟨_,hv, .inl ⟨rfl,rfl⟩,by simp[Value.ownBlock]⟩
 .rcases f.of he with rfl|f
  exact wq.own he
  .simp only[wZ]at f;obtain⟨o',a,b,y,u,f1,f2,f3,f4⟩:=f;rw[ho]at f1;injection f1 with f1;subst f1
   exact⟨e,he, .inr (by simp only[wZ];exact⟨o,a,b,y,u,ho,back f2 f3 f4,f3,f4⟩)⟩
theorem Cd{T:kE}{et:TypeId}{i:Nat}{h:DC->Hp}{sv:SV}{v':SV}{O':w9}{w8:Nat}(hr:(iw T et O i h sv).ok O nx v' O' w8){mp:Bool}{es:Nat}{nN:List (List DC)}{r c:Nat}{row:List DC}
 (hh:∀d,h d= .deep mp es (q9 nN r c d)) (hv:h (.v sv)= .deep mp es nN) (hrow:nN[r]?=some row) (hcell:row[c]?=some (.v sv)) (hi:(wu i O).isSome)
 (H:uY M K w (qh i (h (.v sv)) O) nx):uY M K w O' nx/\v'= .wM []/\w8=nx:=by
 have fo:(wW.fu i (h (.v sv)) (.wM [])).ok O nx v' O' w8->uY M K w O' nx/\v'= .wM []/\w8=nx:=by
  rintro⟨rfl,rfl,rfl⟩;exact⟨H,rfl,rfl⟩
 have hlk:wu i (qh i (h (.v sv)) O)=some (.deep mp es nN):=by rw[Y0 i _ O i hi,zh rfl,hv]
 have Gb:∀(a b:Hp) (O:w9),qh i a (qh i b O)=qh i a O:=by
  intro a b O
  induction O with
  |nil=>rfl
  |cons p O ih=>
   obtain⟨d,u⟩:=p;unfold qh;cases hb:Nat.beq i d
   simp only[qh,hb,ih];simp only[qh,hb]
 unfold iw at hr;split at hr
 .rename_i k r' es' n lim;split at hr
  .split at hr
   .rename_i dH rows hk;split at hr
    case h_2=>exact hr.elim
    rename_i h1;have h1:=Zs h1;subst h1;split at hr
    case h_2=>exact hr.elim
    rename_i h2;have hki:=JA h2;obtain⟨hn,rfl,rfl,rfl⟩:=hr;have hk':wu k (qh i (h (.v (.sl (.loc k) 0 es' n none))) O)=some (.rows es' rows):=by rw[Y0 i _ O k hi,z7 hki];exact hk
    have:=H.dZ hlk hrow hcell hk' hn hki;rw[Gb,<-hh]at this;exact⟨this,rfl,rfl⟩
   exact fo hr
  exact fo hr
 .split at hr
  .rename_i e hs;obtain⟨rfl,rfl,rfl⟩:=hr;have:=H.iK (es':=T.size e) hlk hrow hcell;rw[Gb,<-hh]at this;exact⟨this,rfl,rfl⟩
  exact fo hr
 exact fo hr
end
section
variable {M:Mx}{K:Env}{w:World}{O:w9}{nx:Nat}{ρ:Operand->Value}{lk:Operand->Option SV}{v:SV}{O':w9}{w8:Nat}{dst:Option Tmp}{ty:TypeId}{pos:String}{af:Array Edge}{gd:Option (Nat×Bool)}
theorem NK{w w':World}(h:w'.heap=w.heap)(a:Addr):w'.cell? a=w.cell? a:=by unfold World.cell?;rw[h]
structure mA(P:Program)(w:World)(K:Env)(es:Nat)(xs:List (List SV))(m:Nat)(xv:Value)(news:List Value):Prop where
 len:news.length=m*es
 one:∀u∈news,u.oneCell'=true
 den:wI K es xs news
 lenOf:∀w',(Builtin.lenOf xv).run P w'= .ok m w'
 first:∀w',w'.heap=w.heap->(Builtin.firstCells es m xv).run P w'= .ok ⟨news⟩ w'
theorem Xi(A:At M K w O nx ρ lk){es:Nat}{x:SV}{xv:Value}{xs:List (List SV)}{m:Nat}(hd:Den K x xv)(h:lV M.C O es x=some (xs,m))(hl:xs.length=m):∃news,mA M.P w K es xs m xv news:=by
 unfold lV at h;split at h
 .rename_i b r es' len lim;split at h
  case h_2=>cases h
  rename_i dH rs hh;split at h
  case h_2=>cases h
  rename_i h1;split at h
  case h_2=>cases h
  rename_i h2;have h1:=Zs h1;have h2:=Zs h2;subst h1 h2;simp only[zj,yF]at h;obtain⟨rfl,rfl⟩:=h;have wA:=A.H.look hh;simp only[uZ]at wA;simp only[Den]at hd;rcases hd with⟨q1,rfl,q3⟩|⟨en,o,q1,rfl,q3,q4,q5⟩
  .subst q3;refine⟨[],by simp,by simp,by simp[wI],fun w'=>rfl,fun w' _=>rfl⟩
  .by_cases h0:len=0
   .subst h0;refine⟨[],by simp,by simp,by simp[wI],fun w'=>rfl,fun w' _=>?_⟩;simp[Builtin.firstCells,loadCells,loadCellsFrom]
   .rcases wA with⟨q6,rfl⟩|⟨aB,arr,T,fz,q6,q7,_,q8⟩
    rw[q1]at q6;cases q6;rw[q1]at q6;injection q6 with q6;injection q6 with q6;subst q6
    have q8':∀(i:Nat) (row:List SV),((rs.drop r).take len)[i]?=some row->row.length=es/\wK K arr (en.base+r*es+i*es) row:=by
     intro i row hi;rw[zQ]at hi;split at hi
     .rw[y8]at hi;obtain⟨p1,p2⟩:=q8 _ row hi;refine⟨p1,?_⟩;rw[show en.base+r*es+i*es=en.base+(r+i)*es by rw[xM];omega];exact p2
     cases hi
    obtain⟨p1,p2,p3⟩:=DY q8';rw[hl]at p1 p2 p3;have ho:=q5 (by omega);subst ho;refine⟨_,p2,p3,p1,fun w'=>rfl,fun w' hw'=>?_⟩
    have hcell:∀j u,((arr.toList.drop (en.base+r*es)).take (len*es))[j]?=some u->w'.cell? ((⟨en.g,en.base+r*es,none⟩:Addr).add j)=some u:=by
     intro j u hj;rw[zQ]at hj;split at hj
     .rw[y8]at hj;rw[Addr.add_lit,NK hw'];simp only[World.cell?,q7];simpa using hj
     cases hj
    exact run_firstCells_some (P:=M.P) w' es len ⟨en.g,en.base+r*es,none⟩ len _ _ p2 hcell
 .simp only[zj,yF]at h;obtain⟨rfl,rfl⟩:=h;rename_i p;obtain⟨rfl,_⟩:xv= .slice p 0 0/\_:=hd;exact⟨[],by simp,by simp,by simp[wI],fun w'=>rfl,fun w' _=>by cases p<;>simp[Builtin.firstCells,loadCells,loadCellsFrom]⟩
 .rename_i s;split at h
  case h_2=>cases h
  rename_i h1;have h1:=Zs h1;subst h1;simp only[zj,yF]at h;obtain⟨rfl,rfl⟩:=h;have hd':=tc hd;clear hd;subst hd';refine⟨s.map fun b=> .int .u8 (b.toNat:Int),by simp,?_,?_,fun w'=>?_,fun w' _=>?_⟩
  .intro u hu;obtain⟨b,_,rfl⟩:=zY.1 hu
   rfl
  .clear hl
   induction s with
   |nil=>simp[wI]
   |cons b s ih=>
    simp only[zI,wI];exact⟨[.int .u8 (b.toNat:Int)],_,rfl,rfl,by simp[bytesRow,w6,Den],ih⟩
  simp[Builtin.lenOf,VW]
  .have:(ByteArray.mk s.toArray).extract 0 s.length=⟨s.toArray⟩:=by rw[Ua];simp
   simp[Builtin.firstCells,this]
 cases h
theorem NL{es:Nat}:∀{rs qs:List (List SV)} {us vs:List Value},wI K es rs us->wI K es qs vs->wI K es (rs++qs) (us++vs)
 | [],qs,us,vs,h,k=>by simp only[wI]at h;subst h;exact k
 |r::rs,qs,us,vs,h,k=>by
  simp only[wI]at h;obtain⟨a,b,rfl,h1,h2,h3⟩:=h;simp only[List.cons_append,wI,zM];exact⟨a,_,rfl,h1,h2,NL h3 k⟩
theorem HL{arr:Array Value}{es r cap:Nat}{rs xs:List (List SV)}{us:List Value}(hsz:arr.size=cap*es)(Gc:r+xs.length<=cap)(hrr:r<=rs.length)
 (hr:∀(i:Nat) (row:List SV),rs[i]?=some row->row.length=es/\wK K arr (0+i*es) row) (hd:wI K es xs us) (h1:∀u∈us,u.oneCell'=true):
 r*es+us.length<=arr.size/\
 ∀(i:Nat) (q:List SV),(rs.take r++xs++rs.drop (r+xs.length))[i]?=some q->q.length=es/\wK K (arr.toList.take (r*es)++us++arr.toList.drop (r*es+us.length)).toArray (0+i*es) q:=by
 have hl:=V6 hd
 have hfit:r*es+us.length<=arr.size:=by
  have:(r+xs.length)*es<=cap*es:=yo _ Gc;rw[xM]at this;omega
 refine⟨hfit,?_⟩;intro i q hi;have ht:(rs.take r).length=r:=by rw[zu];omega
 rw[zM]at hi;by_cases hir:i<r
 .rw[zn (by omega),zQ,zh hir]at hi;obtain⟨p1,p2⟩:=hr i q hi;refine⟨p1,C3 (o:=0+i*es) p2 p1 hfit (.inl ?_)⟩;have:(i+1)*es<=r*es:=yo _ hir;rw[yB]at this;omega
 .rw[zx (by omega),ht]at hi;by_cases o7:i-r<xs.length
  .rw[zn o7]at hi;obtain⟨p1,p2⟩:=X8 hd h1 (i-r) q hi;refine⟨p1,fun j sv hj=>?_⟩;obtain⟨u,p3,p4,p5⟩:=p2 j sv hj;refine⟨u,?_,p4,p5⟩;have hlt:=(zz.1 p3).1;have hut:(arr.toList.take (r*es)).length=r*es:=by rw[zu];simp;omega
   have hi':i*es=r*es+(i-r)*es:=by rw[<-xM];congr 1;omega
   simp only[zM,yY];rw[zx (by omega),hut,zn (by simp at hlt;omega)];rw[show 0+i*es+j-r*es=0+(i-r)*es+j by omega];simpa using p3
  .rw[zx (by omega),y8]at hi;rw[show r+xs.length+(i-r-xs.length)=i by omega]at hi;obtain⟨p1,p2⟩:=hr i q hi;refine⟨p1,C3 (o:=0+i*es) p2 p1 hfit (.inr ?_)⟩;have:(r+xs.length)*es<=i*es:=yo _ (by omega);rw[xM]at this;omega
theorem ZcJ{need old:Nat}(h:old<need):Builtin.nextslicecap need old<=need+need/4+192:=by
 unfold Builtin.nextslicecap;split
 omega
 .split
  omega
  .rw[growBy_four]
   (repeat' split)<;>omega
theorem NM{need old bytes:Nat}(h:old<need)(hb:min (2*need) (need+need/4+192)*bytes<=281474976710656):Builtin.nextslicecap need old*bytes<=281474976710656:=
 zP (yo _ (Nat.le_min.2 ⟨nextslicecap_le h,ZcJ h⟩)) hb
theorem NN{k b:Nat}(h:k*b<=140737488355328):min (2*k) (k+k/4+192)*b<=281474976710656:=
 zP (yo _ (Nat.min_le_left _ _)) (by rw[Nat.mul_assoc];omega)
theorem Za1{P:Program}{w:World}{t u e:TypeId}{i:TypeInfo}{z:Value}{ty:TypeId}{base:Option Addr}{n cap m:Nat}{xv:Value}{olds news:List Value}(ht:P.underlying t=some (.slice e))(hu:(∃q,P.underlying u=some (.slice q))\/P.underlying u=some .string)(hi:P.info? e=some i)(hz:i.zero=some z)
 (hn:∀w',(Builtin.lenOf xv).run P w'= .ok m w') (hf:∀w',w'.heap=w.heap->(Builtin.firstCells i.size m xv).run P w'= .ok ⟨news⟩ w') (ho:∀w',w'.heap=w.heap->(Builtin.firstCells i.size n (.slice base n cap)).run P w'= .ok ⟨olds⟩ w')
 (hroom:cap<n+m) (h63:n+m<=9223372036854775807) (hbytes:min (2*(n+m)) ((n+m)+(n+m)/4+192)*i.bytes<=281474976710656):
 (Builtin.append_ #[t,u] ty #[.slice base n cap,xv]).run P w= .ok (.slice (some ⟨w.heap.size,0,none⟩) (n+m) (grownCap w (n+m) cap e))
   (w.drew.alloc (.cells ⟨olds++news++(Builtin.zeroCells z.cells (grownCap w (n+m) cap e-(n+m))).toList⟩ e)):=by
 have hcap:=NM hroom hbytes;have h1:¬(n+m<=cap):=by omega
 have h2:¬(9223372036854775807< ((n:Int)+(m:Int))):=by omega
 have h3:¬(281474976710656<Builtin.nextslicecap (n+m) cap*i.bytes):=by omega
 have fB:=hf w.drew rfl;have hd2:=ho w.drew rfl
 have jB:(Array.mk olds++Array.mk news++Builtin.zeroCells z.cells (grownCap w (n+m) cap e-(n+m)))=⟨olds++news++(Builtin.zeroCells z.cells (grownCap w (n+m) cap e-(n+m))).toList⟩:=by
  apply yC;simp
 have NP:(choose (.appendCap (n+m) cap e)).run P w= .ok (grownCap w (n+m) cap e) w.drew:=by
  simp[grownCap,Question.forced]
 rw[<-jB];rcases hu with⟨q,hu⟩|hu
 .simp[Builtin.append_,Z8 ht,Z8 hu,Zv hi,WA hi,Jo hi hz,hn,h1,h2,h3,fB,hd2,newRow,Question.forced,grownCap];try(congr 2;apply yC;simp)
 .simp[Builtin.append_,Z8 ht,Z8 hu,Zv hi,WA hi,Jo hi hz,hn,h1,h2,h3,fB,hd2,newRow,Question.forced,grownCap];try(congr 2;apply yC;simp)
theorem NQ{P:Program}{w:World}{t u e:TypeId}{i:TypeInfo}{ty:TypeId}{g n cap m:Nat}{arr:Array Value}{tt:TypeId}{fz:Nat×Nat}{xv:Value}{news:List Value}(ht:P.underlying t=some (.slice e))(hu:(∃q,P.underlying u=some (.slice q))\/P.underlying u=some .string)(hi:P.info? e=some i)
 (hn:∀w',(Builtin.lenOf xv).run P w'= .ok m w') (hf:∀w',w'.heap=w.heap->(Builtin.firstCells i.size m xv).run P w'= .ok ⟨news⟩ w')
 (hg:w.heap[g]?=some (.cells arr tt fz)) (huf:VD arr.size fz) (h1:∀u∈news,u.oneCell'=true) (hroom:n+m<=cap) (hfit:n*i.size+news.length<=arr.size):
 (Builtin.append_ #[t,u] ty #[.slice (some ⟨g,0,none⟩) n cap,xv]).run P w= .ok (.slice (some ⟨g,0,none⟩) (n+m) cap) (w.setRow g (arr.toList.take (n*i.size)++news++arr.toList.drop (n*i.size+news.length)).toArray):=by
 have fB:=hf w rfl;have hst:=X2 (P:=P) g (n*i.size) tt fz news 0 arr w hg (by simpa using hfit) huf h1;simp only[Nat.add_zero]at hst;have rN:(⟨g,0,none⟩:Addr).add (n*i.size)=⟨g,n*i.size,none⟩:=by rw[Addr.add_lit,zy]
 rcases hu with⟨q,hu⟩|hu
 simp[Builtin.append_,Z8 ht,Z8 hu,Zv hi,hn,hroom,fB,rN,hst];simp[Builtin.append_,Z8 ht,Z8 hu,Zv hi,hn,hroom,fB,rN,hst]
theorem NR{P:Program}{w:World}{t u e:TypeId}{i:TypeInfo}{ty:TypeId}{xv:Value}(ht:P.underlying t=some (.slice e))(hu:(∃q,P.underlying u=some (.slice q))\/P.underlying u=some .string)(hi:P.info? e=some i)
 (hn:∀w',(Builtin.lenOf xv).run P w'= .ok 0 w') (hf:∀w',w'.heap=w.heap->(Builtin.firstCells i.size 0 xv).run P w'= .ok ⟨[]⟩ w'):
 (Builtin.append_ #[t,u] ty #[.slice none 0 0,xv]).run P w= .ok (.slice none 0 0) w:=by
 have fB:=hf w rfl;rcases hu with⟨q,hu⟩|hu
 simp[Builtin.append_,Z8 ht,Z8 hu,Zv hi,hn,fB];simp[Builtin.append_,Z8 ht,Z8 hu,Zv hi,hn,fB]
theorem Ce{K:Env}{es:Nat}{z:List SV}{zs:List Value}(hz:w6 K z zs)(hl:zs.length=es):∀n,wI K es (List.replicate n z) (XV zs n)
 |0=>by simp[wI,XV]
 |n+1=>by
  rw[List.replicate_succ,Nw];simp only[wI];exact⟨zs,XV zs n,rfl,hl,hz,Ce hz hl n⟩
theorem Z8c{P:Program}{w:World}{t u e:TypeId}{i:TypeInfo}{z:Value}{ty:TypeId}{k kk:IntKind}{n:Int}(ht:P.underlying t=some (.slice e))(hu:P.underlying u=some (.int k))(hi:P.info? e=some i)(hz:i.zero=some z)(hs:0<i.size)
 (h0:0<n) (h63:n<=9223372036854775807) (hby:n.toNat*i.bytes<=140737488355328):
 (Builtin.append_ #[t,u] ty #[.slice none 0 0, .int kk n]).run P w= .ok (.slice (some ⟨w.heap.size,0,none⟩) n.toNat (grownCap w n.toNat 0 e))
   (w.drew.alloc (.cells ⟨(Builtin.zeroCells z.cells n.toNat).toList++(Builtin.zeroCells z.cells (grownCap w n.toNat 0 e-n.toNat)).toList⟩ e)):=by
 obtain⟨m,rfl⟩:∃m:Nat,n=(m:Int):=⟨n.toNat,by omega⟩;simp only[Int.toNat_natCast]at hby⊢;have hw:IntKind.i64.wrap (m:Int)=m:=IntWalk.i64_in _ ⟨by omega,by omega⟩;have hcap:=NM (need:=m) (old:=0) (bytes:=i.bytes) (by omega) (NN hby);have h1:¬(281474976710656< (m:Int)*(i.bytes:Int)):=by rw[<-Int.natCast_mul];omega
 have h2:¬(281474976710656<Builtin.nextslicecap m 0*i.bytes):=by omega
 have h3:¬m=0:=by omega
 have h4:¬i.size=0:=by omega
 have h7:¬m*i.size=0:=Nat.mul_ne_zero h3 h4;have h5:¬(9223372036854775807< (m:Int)):=by omega
 have h6:¬((m:Int)<0):=by omega
 simp[Builtin.append_,Z8 ht,Z8 hu,Zv hi,WA hi,Jo hi hz,asInt,asIntOf,hw,h1,h2,h3,h4,h5,h6,h7,newRow,Question.forced,grownCap,Builtin.firstCells];try(congr 2;apply yC;simp)
theorem Z6G{P:Program}{w:World}{t u e:TypeId}{i:TypeInfo}{ty:TypeId}{k kk:IntKind}(ht:P.underlying t=some (.slice e))(hu:P.underlying u=some (.int k))(hi:P.info? e=some i):
 (Builtin.append_ #[t,u] ty #[.slice none 0 0, .int kk 0]).run P w= .ok (.slice none 0 0) w:=by
 have hw:IntKind.i64.wrap 0=0:=IntWalk.i64_in _ ⟨by omega,by omega⟩;simp[Builtin.append_,Z8 ht,Z8 hu,Zv hi,WA hi,asInt,asIntOf,hw]
theorem NS{P:Program}{nx es:Nat}{t u e:TypeId}{ie:TypeInfo}{z sv xv:Value}{base:Option Addr}{n cap m b:Nat}{olds news:List Value}{rs xs:List (List SV)}(hη:K.length=nx)(hd:P.underlying t=some (.slice e))(hu:(∃q,P.underlying u=some (.slice q))\/P.underlying u=some .string)(h1:P.info? e=some ie)(h2:ie.zero=some z)(qw:ie.size=es)(cm:ie.bytes=b)(hzl:z.cells.size=es)
 (jU:sv= .slice base n cap) (N:mA P w K es xs m xv news) (hroom:cap<n+m) (h63:n+m<=9223372036854775807) (hby:min (2*(n+m)) ((n+m)+(n+m)/4+192)*b<=281474976710656)
 (ho:∀w',w'.heap=w.heap->(Builtin.firstCells es n (.slice base n cap)).run P w'= .ok ⟨olds⟩ w') (mB:wI K es rs olds) (Gd:∀u∈olds,u.oneCell'=true) (hrl:rs.length=n) (hxl:xs.length=m):
 ∃z' w' cap' arr T fz,(Builtin.append_ #[t,u] ty #[sv,xv]).run P w= .ok z' w'/\w'.heap=w.heap.push (.cells arr T fz)/\(w'.os=w.os/\w'.tape=w.tape/\w'.output=w.output/\w.drawn<=w'.drawn)/\
  Den (K++ [some ⟨w.heap.size,0,cap'⟩]) (.sl (.loc nx) 0 es (n+m) none) z'/\qm (K++ [some ⟨w.heap.size,0,cap'⟩]) w' true (.loc nx) es (rs++xs)/\∀(k:Nat) u,olds[k]?=some u->arr[k]?=some u:=by
 have hge:=grownCap_ge w (n+m) cap e;have hrun:=Za1 (P:=P) (ty:=ty) (base:=base) (i:=ie) hd hu h1 h2 N.lenOf (by rw[qw];exact N.first) (by rw[qw];exact ho) hroom h63 (by rw[cm];exact hby);rw[<-jU]at hrun;have lX:=NL mB N.den;have hlen:=V6 lX
 have hone:∀u∈olds++news,u.oneCell'=true:=by
  intro u hu;rcases zW.1 hu with hu|hu
  exact Gd u hu;exact N.one u hu
 have Cf:=X8 lX hone;refine⟨_,_,grownCap w (n+m) cap e,_,e,(0,0),hrun,rfl,⟨rfl,rfl,rfl,xN _⟩,W5 hη hge,?_,fun k u hk=>?_⟩
 .right
  have mm:(olds++news++(Builtin.zeroCells z.cells (grownCap w (n+m) cap e-(n+m))).toList).length=grownCap w (n+m) cap e*es:=by
   rw[zg,hlen,zg,hrl,hxl,Array.length_toList,size_zeroCells,hzl,<-xM];congr 1;omega
  refine⟨_,_,e,(0,0),ZR hη _,YB (w:=w) (w':=w.drew.alloc _) rfl,fun _=>⟨WB _,mm,?_,rfl⟩,?_⟩;rw[zg,hrl,hxl];exact hge
  .intro k row hk;obtain⟨p1,p2⟩:=Cf k row hk;refine⟨p1,fun j rP hj=>?_⟩;obtain⟨y,p3,p4,p5⟩:=p2 j rP hj;refine⟨y,?_,p4,p5.mono (zC _ _)⟩;have hlt:=(zz.1 p3).1;simp only[yY];rw[zn (by simpa using hlt)];simpa using p3
 .have hlt:=(zf.1 hk).1;simp only[yY,zM];rw[zn hlt];exact hk
structure Grown(K:Env)(w:World)(i es n:Nat)(w':World)(x:Option kM):Prop where
 os:w'.os=w.os
 tape:w'.tape=w.tape
 output:w'.output=w.output
 drawn:w.drawn<=w'.drawn
 size:w.heap.size<=w'.heap.size
 hold:∀k,k<w.heap.size->(∀e,K[i]?=some (some e)->e.g≠k)->w'.heap[k]?=w.heap[k]?
 blk:∀e,x=some e->e.base=0/\(K[i]?=some (some e)\/e.g=w.heap.size)
 cells:∀e o a b,x=some e->w'.heap[e.g]?=some o->a<n->b<es->∃e0 o0,K[i]?=some (some e0)/\w.heap[e0.g]?=some o0/\ZJ o es a b=ZJ o0 es a b
theorem uY.tg(H:uY M K w O nx){i es n:Nat}{h h':Hp}(hi:wu i O=some h){w':World}{x:Option kM}(G:Grown K w i es n w' x)(hs:uZ (K++ [x]) w' true (.loc nx) h')
 (hf:∀k,wq (K++ [x]) w' (.loc nx) h' k->wq K w (.loc i) h k\/w.heap.size<=k):uY M (K++ [x]) w' ((nx,h')::qy i O) (nx+1):=by
 have hpre:K<+:K++ [x]:=zC _ _;have hold:∀k,k<w.heap.size->¬wq K w (.loc i) h k->w'.heap[k]?=w.heap[k]?:=fun k hk hn=>G.hold k hk fun e he hek=>hn (hek▸wq.own he)
 have back:∀{j g},wu j (qy i O)=some g->j≠i/\wu j O=some g:=fun{j g} hj=>by
  have hne:j≠i:=fun e=>by subst e;rw[Yh]at hj;cases hj
  exact⟨hne,by rw[<-XZ i O j hne];exact hj⟩
 have keep:∀{j g},wu j (qy i O)=some g->∀k,wq K w (.loc j) g k->w'.heap[k]?=w.heap[k]?:=fun{j g} hj k f=>hold k ((H.own.1 j g (back hj).2).1.wY f) fun f'=>H.own.2 j i g h k (back hj).2 hi (back hj).1 f f';have bk:∀{j g},wu j (qy i O)=some g->∀k,wq (K++ [x]) w' (.loc j) g k->wq K w (.loc j) g k:=fun{j g} hj k f=>H.stands hpre (back hj).2 (keep hj) f;refine{pre:=H.pre.trans hpre,len:=by simp[H.len],qN:=H.qN,own:=⟨fun j g hj=>?_,fun j j' g g' k hj hj' hne f f'=>?_⟩,fr:=⟨G.os.trans H.fr.os,G.tape.trans H.fr.tape,G.output.trans H.fr.output,zP H.fr.drawn G.drawn,zP H.fr.size G.size,fun k hk hF=>?_⟩}
 .rw[Za]at hj;split at hj
  .rename_i hq;subst hq;injection hj with hj;subst hj
   refine⟨hs,fun k f=>(hf k f).elim (fun f=>(H.own.1 i h hi).2 k f) fun hk=> .inr (zP H.fr.size hk)⟩
  exact⟨((H.own.1 j g (back hj).2).1.keep (keep hj)).mono hpre,fun k f=>(H.own.1 j g (back hj).2).2 k (bk hj k f)⟩
 .have other:∀{a g},wu a (qy i O)=some g->wq (K++ [x]) w' (.loc a) g k->wq (K++ [x]) w' (.loc nx) h' k->False:=fun{a g} ha f f'=>by
   have f:=bk ha k f;rcases hf k f' with f'|hk
   exact H.own.2 a i g h k (back ha).2 hi (back ha).1 f f';have:=(H.own.1 a g (back ha).2).1.wY f;omega
  rw[Za]at hj hj';split at hj
  .rename_i hq;subst hq;injection hj with hj;subst hj
   rw[z7 (yX hne)]at hj';exact other hj' f' f
  .split at hj'
   .rename_i hq;subst hq;injection hj' with hj';subst hj'
    exact other hj f f'
   exact H.own.2 j j' g g' k (back hj).2 (back hj').2 hne (bk hj k f) (bk hj' k f')
 .rw[hold k (yL hk H.fr.size) fun f=>?_];exact H.fr.block k hk hF
  .rcases(H.own.1 i h hi).2 k f with h|h
   exact hF h;omega
theorem NT{a b n es:Nat}(ha:a<n)(hb:b<es):a*es+b<n*es:=by
 have:=yo es (show a+1<=n from ha);rw[yB]at this;omega
theorem NU{P:Program}{i es:Nat}{t u e:TypeId}{ie:TypeInfo}{z sv xv:Value}{n m b:Nat}{news:List Value}{rs xs:List (List SV)}(hη:K.length=nx)(hd:P.underlying t=some (.slice e))(hu:(∃q,P.underlying u=some (.slice q))\/P.underlying u=some .string)(h1:P.info? e=some ie)(h2:ie.zero=some z)(qw:ie.size=es)(cm:ie.bytes=b)(hzl:z.cells.size=es)
 (dY:Den K (.sl (.loc i) 0 es n none) sv) (wA:qm K w true (.loc i) es rs) (N:mA P w K es xs m xv news) (q1:xs.length=m) (q2:n<=rs.length) (q3:n+m<=9223372036854775807) (q4:min (2*(n+m)) ((n+m)+(n+m)/4+192)*b<=281474976710656):
 ∃z' w' x,(Builtin.append_ #[t,u] ty #[sv,xv]).run P w= .ok z' w'/\Den (K++ [x]) (.sl (.loc nx) 0 es (n+m) none) z'/\qm (K++ [x]) w' true (.loc nx) es (rs.take n++xs)/\Grown K w i es n w' x:=by
 have fQ:∀{base:Option Addr} {cap:Nat} {olds:List Value} {rs:List (List SV)},sv= .slice base n cap->cap<n+m->(∀w',w'.heap=w.heap->(Builtin.firstCells es n (.slice base n cap)).run P w'= .ok ⟨olds⟩ w')->wI K es rs olds->(∀u∈olds,u.oneCell'=true)->rs.length=n->
  (∀a b,a<n->b<es->∃e0 o0 v,K[i]?=some (some e0)/\w.heap[e0.g]?=some o0/\ZJ o0 es a b=some v/\olds[a*es+b]?=some v)->
  ∃z' w' x,(Builtin.append_ #[t,u] ty #[sv,xv]).run P w= .ok z' w'/\Den (K++ [x]) (.sl (.loc nx) 0 es (n+m) none) z'/\qm (K++ [x]) w' true (.loc nx) es (rs++xs)/\Grown K w i es n w' x:=by
  intro base cap olds rs jU hroom ho mB Gd hrl hc;obtain⟨z',w',cap',arr,T,fz,p1,p2,⟨p3,p4,p5,p6⟩,p7,p8,p9⟩:=NS (ty:=ty) hη hd hu h1 h2 qw cm hzl jU N hroom q3 q4 ho mB Gd hrl q1;refine⟨z',w',_,p1,p7,p8,⟨p3,p4,p5,p6,by rw[p2];simp,fun k hk _=>?_,fun e he=>?_,fun e o a b he ho ha hb=>?_⟩⟩;rw[p2,vi,z7 (by omega)];injection he with he;subst he;exact⟨rfl, .inr rfl⟩
  .injection he with he;subst he;rw[YB p2]at ho;injection ho with ho;subst ho
   obtain⟨e0,o0,v,g1,g2,g3,g4⟩:=hc a b ha hb;exact⟨e0,o0,g1,g2,by rw[g3];exact p9 _ _ g4⟩
 have th:m=0->xs=[]/\news=[]:=fun hm0=>by
  subst hm0;exact⟨zJ.1 q1,by apply zJ.1;rw[N.len];omega⟩
 have still:∀{x:Option kM},(∀e,x=some e->e.base=0/\K[i]?=some (some e))->n=0->Grown K w i es n w x:=fun{x} hx hn=>
  ⟨rfl,rfl,rfl,zo _,zo _,fun _ _ _=>rfl,fun e he=>⟨(hx e he).1, .inl (hx e he).2⟩,fun e o a b _ _ ha=>by omega⟩
 simp only[Den,Env.get]at dY;unfold qm at wA;simp only[Env.get]at wA;rcases dY with⟨p1,jU,p3⟩|⟨en,o,p1,jU,p3,p4,p5⟩
 .rcases wA with⟨p6,rfl⟩|⟨aB,arr,T,fz,p6,_⟩
  case inr=>rw[p1]at p6;cases p6
  subst p3;by_cases hm0:m=0
  .subst hm0;obtain⟨rfl,rfl⟩:=th rfl;have hrun:=NR (P:=P) (ty:=ty) (w:=w) (i:=ie) hd hu h1 N.lenOf (by rw[qw];exact N.first);rw[<-jU]at hrun;exact⟨_,w,none,hrun,Or.inl ⟨ZR hη _,jU,rfl⟩,Or.inl ⟨ZR hη _,rfl⟩,still (fun e h=>by cases h) rfl⟩
  exact fQ (rs:=[]) (olds:=[]) jU (by omega) (fun w' _=>rfl) (by simp[wI]) (by simp) rfl (fun a b ha=>by omega)
 .rcases wA with⟨p6,_⟩|⟨aB,arr,T,fz,p6,p7,p8,p9⟩
  rw[p1]at p6;cases p6;rw[p1]at p6;injection p6 with p6;injection p6 with p6;subst p6
  obtain⟨pg,pn,Ge,eS⟩:=p8 trivial;rw[eS]at p9;simp only[Option.getD_none]at jU p3 p4 p5
  have HM:∀(k:Nat) (row:List SV),(rs.take n)[k]?=some row->row.length=es/\wK K arr (0+k*es) row:=by
   intro k row hk;rw[zQ]at hk;split at hk
   exact p9 k row hk;cases hk
  have iL:(rs.take n).length=n:=by rw[zu];omega
  obtain⟨g1,g2,g3⟩:=DY HM;rw[iL]at g1 g2 g3;by_cases NV:en.cap=0
  ·
   have hn0:n=0:=by omega
   subst hn0;by_cases hm0:m=0
   .subst hm0;obtain⟨rfl,rfl⟩:=th rfl
    have hrun:(Builtin.append_ #[t,u] ty #[sv,xv]).run P w= .ok (.slice (some ⟨en.g,o,none⟩) 0 (en.cap-0)) w:=by
     have fB:=N.first w rfl;rcases hu with⟨q,hu⟩|hu<;>simp[jU,Builtin.append_,Z8 hd,Z8 hu,Zv h1,N.lenOf,qw,fB,storeCells]
    refine⟨_,w,some en,hrun,?_,?_,still (fun e h=>by injection h with h;subst h;exact⟨eS,p1⟩) rfl⟩
    .simp only[Den];right
     exact⟨en,o,ZR hη _,by simp,by simp,by simp,fun _=>p5 (.inr trivial)⟩
    exact .inr ⟨en,arr,T,fz,ZR hη _,p7,fun _=>⟨pg,pn,by simp,eS⟩,fun k row hk=>by simp at hk⟩
   exact fQ (rs:=[]) (olds:=[]) jU (by omega) (fun w' _=>by simp[Builtin.firstCells,loadCells,loadCellsFrom]) (by simp[wI]) (by simp) rfl (fun a b ha=>by omega)
  .have ho:=p5 (.inl (by omega));rw[eS]at ho;simp only[yT,Nat.add_zero]at ho;subst ho;by_cases hroom:n+m<=en.cap
   .obtain⟨r1,r2⟩:=HL pn (r:=n) (by omega) (by rw[iL];exact zo _) HM N.den N.one;have hrun:=NQ (P:=P) (ty:=ty) (w:=w) (i:=ie) (cap:=en.cap) hd hu h1 N.lenOf (by rw[qw];exact N.first) p7 pg N.one hroom (by rw[qw];exact r1);rw[show Value.slice (some ⟨en.g,0,none⟩) n en.cap=sv by rw[jU];simp]at hrun;rw[qw]at hrun
    have fR:(arr.toList.take (n*es)++news++arr.toList.drop (n*es+news.length)).toArray.size=arr.size:=by
     simp only[yl,zg,zu,zF,Array.length_toList];omega
    have hnew:=setRow_heap w en.g arr (arr.toList.take (n*es)++news++arr.toList.drop (n*es+news.length)).toArray T fz p7
    refine⟨_,_,some en,hrun,?_, .inr ⟨en,_,T,fz,ZR hη _,hnew,fun _=>⟨by rw[fR];exact pg,by rw[fR];exact pn,by rw[zg,iL,q1];omega,eS⟩,fun k q hk=>?_⟩,
     ⟨rfl,rfl,rfl,zo _,by rw[setRow_size];exact zo _,fun k _ hk=>setRow_other w en.g k _ (hk en p1).symm,fun e h=>by injection h with h;subst h;exact⟨eS, .inl p1⟩,fun e o a b he ho ha hb=>?_⟩⟩
    .simp only[Den];right
     exact⟨en,0,ZR hη _,by simp,by simpa using hroom,by simp,fun _=>by simp[eS]⟩
    .rw[eS]
     obtain⟨p1,p2⟩:=r2 k q (by
      rw[v7,uU];rw[zn (zf.1 hk).1]
      exact hk)
     exact⟨p1,p2.mono (zC _ _)⟩
    .injection he with he;subst he;rw[hnew]at ho;injection ho with ho;subst ho
     refine⟨_,_,p1,p7,?_⟩;have hlt:=NT ha hb;simp only[ZJ,yY,zM];rw[zn (by rw[zu,Array.length_toList];omega),zQ,zh hlt];simp
   .refine fQ (rs:=rs.take n) jU (by omega) (fun w' hw'=>?_) g1 g3 iL (fun a b ha hb=>?_)
    .have hcell:∀j u,((arr.toList.drop 0).take (n*es))[j]?=some u->w'.cell? ((⟨en.g,0,none⟩:Addr).add j)=some u:=by
      intro j u hj;rw[zQ]at hj;split at hj
      .rw[y8]at hj;rw[Addr.add_lit,NK hw'];simp only[World.cell?,p7];simpa using hj
      cases hj
     exact run_firstCells_some (P:=P) w' es n ⟨en.g,0,none⟩ n _ _ g2 hcell
    .have hlt:=NT ha hb
     have hin:a*es+b<arr.size:=by
      have:n*es<=en.cap*es:=yo _ (by omega);omega
     refine⟨en,_,arr[a*es+b],p1,p7,by simp[ZJ,hin],?_⟩;rw[zQ,zh hlt];simp[hin]
theorem ZgR{P:Program}{i es l:Nat}{t u e:TypeId}{ie:TypeInfo}{sv xv:Value}{n m:Nat}{news:List Value}{rs xs:List (List SV)}(hd:P.underlying t=some (.slice e))(hu:(∃q,P.underlying u=some (.slice q))\/P.underlying u=some .string)(h1:P.info? e=some ie)(qw:ie.size=es)
 (dY:Den K (.sl (.loc i) 0 es n (some l)) sv) (wA:qm K w true (.loc i) es rs) (N:mA P w K es xs m xv news) (q1:xs.length=m) (q0:0<n) (q2:n<=rs.length) (q3:n+m<=l):
 ∃z' w' en,(Builtin.append_ #[t,u] ty #[sv,xv]).run P w= .ok z' w'/\Den K (.sl (.loc i) 0 es (n+m) (some l)) z'/\K[i]?=some (some en)/\(∀k,k≠en.g->w'.heap[k]?=w.heap[k]?)/\w'.heap.size=w.heap.size/\w'.os=w.os/\w'.tape=w.tape/\w'.output=w.output/\w.drawn<=w'.drawn/\
  qm K w' true (.loc i) es (rs.take n++xs):=by
 simp only[Den,Env.get]at dY;unfold qm at wA;simp only[Env.get]at wA;rcases dY with⟨p1,jU,p3⟩|⟨en,o,p1,jU,p3,p4,p5⟩
 omega;rcases wA with⟨p6,_⟩|⟨aB,arr,T,fz,p6,p7,p8,p9⟩
 rw[p1]at p6;cases p6;rw[p1]at p6;injection p6 with p6;injection p6 with p6;subst p6
 obtain⟨pg,pn,Ge,eS⟩:=p8 trivial;rw[eS]at p9;simp only[Option.getD_some]at jU p3 p4 p5
 have HM:∀(k:Nat) (row:List SV),(rs.take n)[k]?=some row->row.length=es/\wK K arr (0+k*es) row:=by
  intro k row hk;rw[zQ]at hk;split at hk
  exact p9 k row hk;cases hk
 have iL:(rs.take n).length=n:=by rw[zu];omega
 have ho:=p5 (.inr trivial);rw[eS]at ho;simp only[yT,Nat.add_zero]at ho;subst ho;obtain⟨r1,r2⟩:=HL pn (r:=n) (by omega) (by rw[iL];exact zo _) HM N.den N.one;have hrun:=NQ (P:=P) (ty:=ty) (w:=w) (i:=ie) (cap:=l) hd hu h1 N.lenOf (by rw[qw];exact N.first) p7 pg N.one q3 (by rw[qw];exact r1);rw[show Value.slice (some ⟨en.g,0,none⟩) n l=sv by rw[jU];simp]at hrun;rw[qw]at hrun
 have fR:(arr.toList.take (n*es)++news++arr.toList.drop (n*es+news.length)).toArray.size=arr.size:=by
  simp only[yl,zg,zu,zF,Array.length_toList];omega
 have hnew:=setRow_heap w en.g arr (arr.toList.take (n*es)++news++arr.toList.drop (n*es+news.length)).toArray T fz p7;refine⟨_,_,en,hrun,?_,p1,fun k hk=>setRow_other w en.g k _ hk,setRow_size _ _ _,rfl,rfl,rfl,zo _, .inr ⟨en,_,T,fz,p1,hnew,fun _=>⟨by rw[fR];exact pg,by rw[fR];exact pn,by rw[zg,iL,q1];omega,eS⟩,fun k q hk=>?_⟩⟩
 .simp only[Den];right
  exact⟨en,0,p1,by simp,by simpa using q3,by simpa using p4,fun _=>by simp[eS]⟩
 .rw[eS]
  exact r2 k q (by
   rw[v7,uU];rw[zn (zf.1 hk).1]
   exact hk)
theorem ZgS{T:kE}{e:TypeId}{s:SV}{es:Nat}{rows:List (List SV)}(h:cc T e s= .wZ es rows):s= .val (.slice none 0 0)/\rows=[]:=by
 unfold cc at h;split at h
 .split at h
  injection h with _ h;exact⟨rfl,h.symm⟩;cases h
 cases h
theorem ZgT{T:kE}{e:TypeId}{s:SV}{v:Value}(h:Den K s v):Den K (ZT (cc T e s)) v:=by
 unfold cc;split
 .split
  simp only[ZT,Den];exact h
 exact h
theorem uY.iM(H:uY M K w O nx){i es n:Nat}{rs:List (List DC)}{xs:List (List SV)}{T:kE}{e:TypeId}(hi:wu i O=some (.deep false es rs))(hn:n<=rs.length){w':World}{x:Option kM}(G:Grown K w i es n w' x)
 (hs:qm (K++ [x]) w' true (.loc nx) es ((ZB rs).take n++xs)):uY M (K++ [x]) w' ((nx, .deep false es (rs.take n++xs.map fun row=>row.map (cc T e)))::qy i O) (nx+1):=by
 have hpre:K<+:K++ [x]:=zC _ _;obtain⟨wA,_⟩:=H.own.1 i _ hi;obtain⟨_,hD,_⟩:=wA.qZ;have cr:=ZR H.len x
 have kids:∀{e1 o a b y},x=some e1->w'.heap[e1.g]?=some o->Yl (rs.take n++xs.map fun row=>row.map (cc T e)) a b=some y->
  (∃e0 o0,K[i]?=some (some e0)/\w.heap[e0.g]?=some o0/\Yl rs a b=some y/\ZJ o es a b=ZJ o0 es a b)\/(y.2=[]/\ZJ o es a b=some (.slice none 0 0)):=by
  intro e1 o a b y hx ho hk;subst hx;obtain⟨y1,y2⟩:=y;obtain⟨row,k1,k2⟩:=wN.1 hk;rcases hs with⟨h1,_⟩|⟨e',arr,T',fz,h1,h2,h3,h4⟩
  rw[cr]at h1;cases h1;rw[cr]at h1;injection h1 with h1;injection h1 with h1;subst h1
  rw[h2]at ho;injection ho with ho;subst ho
  obtain⟨_,_,_,hb0⟩:=h3 rfl;rw[hb0]at h4;by_cases ha:a<n
  .have aq:(rs.take n).length=n:=by rw[zu];omega
   rw[zn (by omega),zQ,zh ha]at k1
   have hfl:((ZB rs).take n++xs)[a]?=some (row.map ZT):=by
    rw[zn (by rw[zu,Yc];omega),zQ,zh ha,Yb,k1];rfl
   have gD:=(zf.1 k2).1;have hle:=(h4 a _ hfl).1;rw[zA]at hle;obtain⟨e0,o0,g1,g2,g3⟩:=G.cells _ _ a b rfl h2 ha (by omega);exact .inl ⟨e0,o0,g1,g2,wN.2 ⟨row,k1,k2⟩,g3⟩
  .have aq:(rs.take n).length=n:=by rw[zu];omega
   rw[zx (by omega),aq,z6]at k1;obtain⟨bL,k3,rfl⟩:=zB.1 k1;rw[z6]at k2;obtain⟨s,k4,k5⟩:=zB.1 k2;obtain⟨rfl,rfl⟩:=ZgS k5
   have hfl:((ZB rs).take n++xs)[a]?=some bL:=by
    have Cg:((ZB rs).take n).length=n:=by rw[zu,Yc];omega
    rw[zx (by omega),Cg];exact k3
   obtain⟨v,q1,_,q2⟩:=(h4 a _ hfl).2 b _ k4;rw[zy]at q1;have q2:v= .slice none 0 0:=q2.1;exact .inr ⟨rfl,by rw[<-q2];exact q1⟩
 have mC:∀{e0 o0 a b y v k},K[i]?=some (some e0)->w.heap[e0.g]?=some o0->Yl rs a b=some y->ZJ o0 es a b=some v->v.ownBlock=some k->k<w.heap.size/\k≠e0.g/\wq K w (.loc i) (.deep false es rs) k:=by
  intro e0 o0 a b y v k g1 g2 g3 g4 g5;obtain⟨y1,y2⟩:=y;obtain⟨v',f1,f2,f3⟩:=((hD e0 g1).2 o0 g2).sat a b _ _ g3;rw[g4]at f1;injection f1 with f1;subst f1
  have ff:wq K w (.loc i) (.deep false es rs) k:=⟨e0,g1, .inr (by simp only[wZ];exact⟨o0,a,b,_,v,g2,g3,g4,g5⟩)⟩;exact⟨wA.wY ff,fun h=>f3 (h▸g5),ff⟩
 refine H.tg hi G ?_ fun k f=>?_
 .refine uZ.jF (mp:=false) ?_ (fun h=>by cases h) fun e1 he=>?_
  .show qm _ _ _ _ _ _
   unfold qm at hs⊢
   have G6:∀(j:Nat) (row:List SV),(ZB (rs.take n++xs.map fun row=>row.map (cc T e)))[j]?=some row->∃bM,((ZB rs).take n++xs)[j]?=some bM/\(row=bM\/row=bM.map fun s=>ZT (cc T e s)):=by
    intro j row hj;unfold ZB at hj⊢;rw[yj,xx]at hj;by_cases hjl:j< ((rs.map fun r=>r.map ZT).take n).length
    .rw[zn hjl]at hj⊢;exact⟨row,hj, .inl rfl⟩
    .rw[zx (by omega)]at hj⊢;rw[xF,z6]at hj;obtain⟨bM,q1,q2⟩:=zB.1 hj;refine⟨bM,q1, .inr ?_⟩;rw[<-q2];simp[Function.comp]
   have lY:(ZB (rs.take n++xs.map fun row=>row.map (cc T e))).length=((ZB rs).take n++xs).length:=by simp[ZB]
   rcases hs with⟨h1,h2⟩|⟨e',arr,T',fz,h1,h2,h3,h4⟩
   exact .inl ⟨h1,zJ.1 (by rw[lY,h2];rfl)⟩
   .refine .inr ⟨e',arr,T',fz,h1,h2,fun h=>by rw[lY];exact h3 h,fun j row hj=>?_⟩;obtain⟨bM,q1,q2⟩:=G6 j row hj;obtain⟨q3,q4⟩:=h4 j bM q1;rcases q2 with rfl|rfl
    exact⟨q3,q4⟩
    .refine⟨by rw[zA];exact q3,fun c sv hc=>?_⟩;rw[z6]at hc;obtain⟨s,q5,rfl⟩:=zB.1 hc;obtain⟨v,q6,q7,q8⟩:=q4 c s q5;exact⟨v,q6,q7,ZgT q8⟩
  .rw[cr]at he;injection he with he;obtain⟨hb0,gD⟩:=G.blk e1 he;refine⟨hb0,fun o ho=>⟨fun a b es' rows hk=>?_,fun a b a' b' y y' v v' k k1 k2 k3 k4 k5 k6=>?_⟩⟩
   .rcases kids he ho hk with⟨e0,o0,g1,g2,g3,g4⟩|⟨g1,g2⟩
    .obtain⟨v,f1,f2,f3⟩:=((hD e0 g1).2 o0 g2).sat a b _ _ g3;refine⟨v,g4.trans f1,(f2.keep fun k hk=>?_).mono hpre,fun h=>?_⟩
     .obtain⟨l1,l2,_⟩:=mC g1 g2 g3 f1 hk;exact G.hold k l1 fun e2 h2=>by rw[g1]at h2;injection h2 with h2;injection h2 with h2;subst h2;exact l2.symm
     .obtain⟨l1,l2,_⟩:=mC g1 g2 g3 f1 h;rcases gD with gD|gD
      rw[g1]at gD;injection gD with gD;injection gD with gD;subst gD;exact l2 rfl
      omega
    .simp only at g1;subst g1;exact⟨_,g2, .inl ⟨rfl,rfl⟩,by simp[Value.ownBlock]⟩
   .rcases kids he ho k1 with⟨e0,o0,g1,g2,g3,g4⟩|⟨_,g2⟩
    .rcases kids he ho k2 with⟨e0',o0',K6,K7,g3',g4'⟩|⟨_,K7⟩
     .rw[g1]at K6;injection K6 with K6;injection K6 with K6;subst K6
      rw[g2]at K7;injection K7 with K7;subst K7
      exact((hD e0 g1).2 o0 g2).ne a b a' b' y y' v v' k g3 g3' (g4▸k3) (g4'▸k4) k5 k6
     rw[K7]at k4;injection k4 with k4;subst k4;cases k6
    rw[g2]at k3;injection k3 with k3;subst k3;cases k5
 .obtain⟨e1,f1,f2⟩:=f;rw[cr]at f1;injection f1 with f1;rcases f2 with rfl|f2
  .rcases(G.blk e1 f1).2 with h|h
   exact .inl (wq.own h);exact .inr (by omega)
  .simp only[wZ]at f2;obtain⟨o,a,b,y,v,f3,f4,f5,f6⟩:=f2;rcases kids f1 f3 f4 with⟨e0,o0,g1,g2,g3,g4⟩|⟨_,g2⟩
   exact .inl (mC g1 g2 g3 (g4▸f5) f6).2.2;rw[g2]at f5;injection f5 with f5;subst f5;cases f6
theorem ZgU(A:At M K w O nx ρ lk)(args:Array Operand)(ts:Array TypeId)(hr:(qH M.C lk O nx (.call ⟨.builtin .append,args,ts⟩)).ok O nx v O' w8):Y9 M K w ⟨dst, .call ⟨.builtin .append,args,ts⟩,ty,pos,af,gd⟩ ρ v O' w8:=by
 simp only[qH,VC,PN]at hr;split at hr
 case h_2=>exact hr.elim
 rename_i s x ha;obtain rfl:args= #[s,x]:=by apply yC;simpa using ha
 split at hr
 case h_2=>exact hr.elim
 rename_i t u htu;obtain rfl:ts= #[t,u]:=by apply yC;simpa using htu
 split at hr
 case h_2=>exact hr.elim
 rename_i sv hs;split at hr
 case h_2=>exact hr.elim
 rename_i NW hx;have dY:=A.L _ _ hs;have pq:=A.L _ _ hx
 have fin:∀{z:Value} {w':World},(Builtin.append_ #[t,u] ty #[ρ s,ρ x]).run M.P w= .ok z w'->sZ M.P ⟨dst, .call ⟨.builtin .append, #[s,x], #[t,u]⟩,ty,pos,af,gd⟩ ρ w z w':=by
  intro z w' h;exact .inl (by simp[execOp,resolve,invoke,builtin,h])
 have main:((∃q,M.P.underlying u=some (.slice q))\/M.P.underlying u=some .string)->(Hl M.C O nx t sv NW).ok O nx v O' w8->Y9 M K w ⟨dst, .call ⟨.builtin .append, #[s,x], #[t,u]⟩,ty,pos,af,gd⟩ ρ v O' w8:=by
  intro hu hr;unfold Hl at hr;split at hr
  case h_2=>exact hr.elim
  rename_i e hst;obtain⟨d,hd,hm⟩:=A.T.jk t (by rw[hst];simp);rw[hst]at hm;simp only[jg]at hm;subst hm;split at hr
  exact hr.elim;rename_i c cs hz;have hsh:M.C.T.sh e≠ .other:=A.T.sY e (by rw[hz];simp);obtain⟨ie,z,h1,h2,h3,h4,h5,_⟩:=A.T.zero e hsh (by rw[hz];simp);rw[hz]at h3 h5;obtain⟨C2,hie,qw,cm⟩:=A.T.info e hsh;rw[h1]at hie;injection hie with hie;subst hie
  have h3:=w6.mono (η':=K) xD h3;have hzl:z.cells.size=M.C.T.size e:=by have:=ZU h3;rw[h5]at this;simpa using this
  split at hr
  exact hr.elim;rename_i xs m hrows
  have fQ:∀{base:Option Addr} {n cap:Nat} {olds news:List Value} {rs:List (List SV)},ρ s= .slice base n cap->mA M.P w K (M.C.T.size e) xs m (ρ x) news->cap<n+m->n+m<=9223372036854775807->min (2*(n+m)) ((n+m)+(n+m)/4+192)*M.C.T.bytes e<=281474976710656->
   (∀w',w'.heap=w.heap->(Builtin.firstCells (M.C.T.size e) n (.slice base n cap)).run M.P w'= .ok ⟨olds⟩ w')->wI K (M.C.T.size e) rs olds->(∀u∈olds,u.oneCell'=true)->rs.length=n->xs.length=m->
   v= .sl (.loc nx) 0 (M.C.T.size e) (n+m) none->O'=(nx, .rows (M.C.T.size e) (rs++xs))::O->w8=nx+1->Y9 M K w ⟨dst, .call ⟨.builtin .append, #[s,x], #[t,u]⟩,ty,pos,af,gd⟩ ρ v O' w8:=by
   intro base n cap olds news rs jU N hroom h63 hby ho mB Gd hrl hxl e1 e2 e3;subst e1 e2 e3;obtain⟨z',w',cap',arr,T,fz,p1,p2,⟨p3,p4,p5,p6⟩,p7,p8,_⟩:=NS (ty:=ty) A.H.len hd hu h1 h2 qw cm hzl jU N hroom h63 hby ho mB Gd hrl hxl;exact⟨_,_,_,fin p1,zC _ _,uY.alloc A.H p2 p3 p4 p5 0 _ p8 p6,p7,fun _ h=>absurd h (by simp)⟩
  split at hr
  .obtain⟨⟨q1,q2,q3⟩,e1,e2,e3⟩:=hr;have jU:ρ s= .slice none 0 0:=And.left dY;obtain⟨news,N⟩:=Xi A pq hrows q1;by_cases hm0:m=0
   .subst hm0;have hx0:xs=[]:=zJ.1 q1;have hn0:news=[]:=by apply zJ.1;rw[N.len];omega
    subst hx0 hn0 e1 e2 e3;have hrun:=NR (P:=M.P) (ty:=ty) (w:=w) (i:=ie) hd hu h1 N.lenOf (by rw[qw];exact N.first);rw[<-jU]at hrun;refine⟨_,w,K++ [none],fin hrun,zC _ _,?_,?_,fun _ h=>absurd h (by simp)⟩;exact A.H.name none (Or.inl ⟨ZR A.H.len _,rfl⟩) (fun e h=>by cases h) (fun e h=>by cases h);exact Or.inl ⟨ZR A.H.len _,jU,rfl⟩
   refine fQ (rs:=[]) (olds:=[]) jU N (by omega) (by omega) (NN (by simpa using q3)) (fun w' _=>rfl) (by simp[wI]) (by simp) rfl q1 (by simpa using e1) (by simpa using e2) e3
  .rename_i i es n _;split at hr
   case h_3=>exact hr.elim
   .rename_i es' rs hh;split at hr
    case h_2=>exact hr.elim
    rename_i qX;have qX:=Zs qX;subst qX;split at hr
    case h_2=>exact hr.elim
    rename_i ct;have ct:=Zs ct;subst ct;obtain⟨⟨q1,q2,q3,q4⟩,e1,e2,e3⟩:=hr;obtain⟨news,N⟩:=Xi A pq hrows q1;obtain⟨z',w',x',hrun,aC,eV,G⟩:=NU (ty:=ty) A.H.len hd hu h1 h2 qw cm hzl dY (A.H.own.1 i _ hh).1 N q1 q2 q3 q4;subst e1 e2 e3;refine⟨_,_,_,fin hrun,zC _ _,A.H.tg hh G eV fun k f=>?_,aC,fun _ h=>absurd h (by simp)⟩;obtain⟨e1,f1,f2⟩:=f;rw[ZR A.H.len]at f1;injection f1 with f1;rcases f2 with rfl|f2
    .rcases(G.blk e1 f1).2 with h|h
     exact .inl (wq.own h);exact .inr (by omega)
    exact f2.elim
   .rename_i es' rs hh;split at hr
    case h_2=>exact hr.elim
    rename_i qX;have qX:=Zs qX;subst qX;split at hr
    case h_2=>exact hr.elim
    rename_i ct;have ct:=Zs ct;subst ct;obtain⟨⟨q1,q2,q3,q4⟩,e1,e2,e3⟩:=hr;obtain⟨news,N⟩:=Xi A pq hrows q1;have wA:=(A.H.own.1 i _ hh).1;simp only[uZ]at wA;obtain⟨z',w',x',hrun,aC,eV,G⟩:=NU (ty:=ty) A.H.len hd hu h1 h2 qw cm hzl dY wA.1 N q1 (by rw[Yc];exact q2) q3 q4;subst e1 e2 e3;exact⟨_,_,_,fin hrun,zC _ _,A.H.iM hh q2 G eV,aC,fun _ h=>absurd h (by simp)⟩
  .rename_i b r es n l _;split at hr
   case h_2 z1m=>
    unfold Pg at hr;split at hr
    case h_2=>exact hr.elim
    rename_i i _;split at hr
    case h_2=>exact hr.elim
    rename_i es' ds hh;split at hr
    case h_2=>exact hr.elim
    rename_i qX;have qX:=Zs qX;subst qX;split at hr
    case h_2=>exact hr.elim
    rename_i ct;have ct:=Zs ct;subst ct;obtain⟨⟨q1,q2,q3,q4,q5,q6⟩,hr⟩:=hr;obtain⟨news,N⟩:=Xi A pq hrows q1;have wA:=(A.H.own.1 i _ hh).1;simp only[uZ]at wA;have mD:=wA.1;rcases y9 l (n+m)with hlt|hlt
    .simp only[wW.ok,yu hlt,yR]at hr;obtain⟨e1,e2,e3⟩:=hr
     obtain⟨en,o,g1,jU,g2⟩:∃en o,K[i]?=some (some en)/\ρ s= .slice (some ⟨en.g,o,none⟩) n l/\n<=l:=by
      simp only[Den,Env.get]at dY;rcases dY with⟨_,_,h0⟩|⟨en,o,g1,g2,g3,_⟩
      omega
      .simp only[Option.getD_some,Nat.sub_zero,zy]at g2 g3;exact⟨en,o,g1,g2,g3⟩
     have A':At M K w (qh i (.rows (M.C.T.size e) (ZB ds)) O) nx ρ lk:=⟨A.H.oE hh g1 (fun _ _=>rfl) rfl rfl rfl rfl mD (zo _) (fun k f=>by
      rcases f.of (e:=en) (show K.get (.loc i)=some (some en)from g1)with h|h
      exact h▸wq.own g1
      exact h.elim),A.T,A.L⟩
     have hR:lV M.C (qh i (.rows (M.C.T.size e) (ZB ds)) O) (M.C.T.size e) (.sl (.loc i) 0 (M.C.T.size e) n (some l))=some ((ZB ds).take n,n):=by
      simp only[lV,Yk,Y0 i _ O i (by rw[hh];rfl),zh,uF,yD]
     have o8:((ZB ds).take n).length=n:=by rw[zu,Yc];omega
     obtain⟨olds,N2⟩:=Xi A' dY hR o8;refine fQ (rs:=(ZB ds).take n) (olds:=olds) jU N hlt q5 q6 (fun w' hw'=>?_) N2.den N2.one o8 q1 e1 e2 e3;rw[<-jU];exact N2.first w' hw'
    .simp only[wW.ok,ye (Nat.not_lt.2 hlt),Bool.false_eq_true,v8]at hr;obtain⟨e1,e2,e3⟩:=hr;obtain⟨z',w',en,hrun,aC,g1,g2,g3,g4,g5,g6,g7,g8⟩:=ZgR (ty:=ty) hd hu h1 qw dY mD N q1 q2 (by rw[Yc];exact q4) (by omega);subst e1 e2 e3
     have H1:=A.H.oE (h:= .rows (M.C.T.size e) ((ZB ds).take n++xs)) hh g1 g2 g3 g4 g5 g6 g8 g7 fun k f=>by
      rcases f.of (e:=en) (show K.get (.loc i)=some (some en)from g1)with h|h
      exact h▸wq.own g1;exact h.elim
     exact⟨_,w',K++ [none],fin hrun,zC _ _,H1.name none (Or.inl ⟨ZR A.H.len _,rfl⟩) (fun e h=>by cases h) (fun e h=>by cases h),aC.mono (zC _ _),fun _ h=>absurd h (by simp)⟩
   rename_i ys n' eV;obtain⟨⟨q0,q1,q2,q3,q4,q5⟩,e1,e2,e3⟩:=hr
   have hnn:n'=n:=by
    simp only[lV]at eV;repeat' split at eV
    all_goals first|(injection eV with eV;injection eV with _ eV;exact eV.symm)|cases eV
   subst hnn;obtain⟨news,N⟩:=Xi A pq hrows q3;obtain⟨olds,N2⟩:=Xi A dY eV q2
   obtain⟨base,jU⟩:∃base,ρ s= .slice base n' n':=by
    simp only[Den]at dY;rcases dY with⟨_,h,h0⟩|⟨en,o,_,h,_⟩
    subst h0;exact⟨none,h⟩
    .rw[q0,Option.getD_some,Nat.add_sub_cancel_left]at h;exact⟨_,h⟩
   refine fQ (rs:=ys) (olds:=olds) jU N (by omega) q4 q5 (fun w' hw'=>?_) N2.den N2.one q2 q3 e1 e2 e3;rw[<-jU];exact N2.first w' hw'
  exact hr.elim
 split at hr
 .rename_i q hsu;obtain⟨d,hd,hm⟩:=A.T.jk u (by rw[hsu];simp);rw[hsu]at hm;simp only[jg]at hm;subst hm;exact main (.inl ⟨_,hd⟩) hr
 .rename_i hsu;obtain⟨d,hd,hm⟩:=A.T.jk u (by rw[hsu];simp);rw[hsu]at hm;simp only[jg]at hm;subst hm;exact main (.inr hd) hr
 .rename_i k hsu;obtain⟨d,cO,hm⟩:=A.T.jk u (by rw[hsu];simp);rw[hsu]at hm;simp only[jg]at hm;subst hm;split at hr
  case h_2=>exact hr.elim
  have jU:ρ s= .slice none 0 0:=And.left dY;unfold Ph at hr;split at hr
  case h_2=>exact hr.elim
  rename_i e hst;obtain⟨d,hd,hm⟩:=A.T.jk t (by rw[hst];simp);rw[hst]at hm;simp only[jg]at hm;subst hm;split at hr
  exact hr.elim;rename_i c cs hz;have hsh:M.C.T.sh e≠ .other:=A.T.sY e (by rw[hz];simp);obtain⟨ie,z,h1,h2,h3,h4,h5,_⟩:=A.T.zero e hsh (by rw[hz];simp);rw[hz]at h3 h5;obtain⟨C2,hie,qw,cm⟩:=A.T.info e hsh;rw[h1]at hie;injection hie with hie;subst hie
  have h3:=w6.mono (η':=K) xD h3;have hzl:z.cells.size=M.C.T.size e:=by have:=ZU h3;rw[h5]at this;simpa using this
  split at hr
  case h_2=>exact hr.elim
  rename_i kk n;obtain⟨⟨q1,q2,q3⟩,e1,e2,e3⟩:=hr;have wU:=V4 pq;subst e1 e2 e3;by_cases hn0:n=0
  .subst hn0;have hrun:=Z6G (P:=M.P) (ty:=ty) (w:=w) (kk:=kk) hd cO h1;rw[<-jU,<-wU]at hrun;refine⟨_,w,K++ [none],fin hrun,zC _ _,?_,?_,fun _ h=>absurd h (by simp)⟩;exact A.H.name none (Or.inl ⟨ZR A.H.len _,rfl⟩) (fun e h=>by cases h) (fun e h=>by cases h);exact Or.inl ⟨ZR A.H.len _,jU,rfl⟩
  .have hpos:0<M.C.T.size e:=by rw[<-h5];simp
   have hrun:=Z8c (P:=M.P) (ty:=ty) (w:=w) (kk:=kk) (n:=n) hd cO h1 h2 (by rw[qw];exact hpos) (by omega) q2 (by rw[cm];exact q3);rw[<-jU,<-wU]at hrun;have hge:=grownCap_ge w n.toNat 0 e
   have Ch:(Builtin.zeroCells z.cells n.toNat).toList=XV z.cells.toList n.toNat:=by
    unfold Builtin.zeroCells;exact Uq z.cells n.toNat _ rfl
   have lX:=Ce h3 (by simpa using hzl) n.toNat;have hone:=C1 h4 n.toNat;have Cf:=X8 lX hone;have hlen:=V6 lX;rw[yN]at hlen;refine⟨_,_,K++ [some ⟨w.heap.size,0,grownCap w n.toNat 0 e⟩],fin hrun,zC _ _,?_,W5 A.H.len hge,fun _ h=>absurd h (by simp)⟩;rw[Ch];refine uY.alloc (w':=w.drew.alloc (.cells ⟨XV z.cells.toList n.toNat++(Builtin.zeroCells z.cells (grownCap w n.toNat 0 e-n.toNat)).toList⟩ e)) A.H rfl rfl rfl rfl 0 _ ?_;simp only[uZ];right
   have mm:(XV z.cells.toList n.toNat++(Builtin.zeroCells z.cells (grownCap w n.toNat 0 e-n.toNat)).toList).length=grownCap w n.toNat 0 e*M.C.T.size e:=by
    rw[zg,hlen,Array.length_toList,size_zeroCells,hzl,<-xM];congr 1;omega
   refine⟨_,_,e,(0,0),ZR A.H.len _,YB (w:=w) (w':=w.drew.alloc _) rfl,fun _=>⟨WB _,mm,?_,rfl⟩,?_⟩;rw[yN];exact hge
   .intro k row hk;obtain⟨p1,p2⟩:=Cf k row hk;refine⟨p1,fun j rP hj=>?_⟩;obtain⟨y,p3,p4,p5⟩:=p2 j rP hj;refine⟨y,?_,p4,p5.mono (zC _ _)⟩;have hlt:=(zz.1 p3).1;simp only[yY];rw[zn (by simpa using hlt)];simpa using p3
 exact hr.elim
end
section
variable {M:Mx}{K:Env}{w:World}{O:w9}{nx:Nat}{ρ:Operand->Value}{lk:Operand->Option SV}{v:SV}{O':w9}{w8:Nat}{dst:Option Tmp}{ty:TypeId}{pos:String}{af:Array Edge}{gd:Option (Nat×Bool)}
theorem Zjg(H:uY M K w O nx):uY M (K++ [some ⟨w.heap.size,0,0⟩]) (X5 w (.map #[] 0)) ((nx, .mp [])::O) (nx+1):=by
 refine H.alloc (w':=X5 w (.map #[] 0)) rfl rfl rfl rfl 0 0 ?_;simp only[uZ];exact⟨_, #[],ZR H.len _,rfl,YB (w:=w) (w':=X5 w (.map #[] 0)) rfl,rfl,fun i row h=>by simp at h⟩
theorem Zem(A:At M K w O nx ρ lk)(t:TypeId)(r:Option Operand)(hr:(qH M.C lk O nx (.makeMap t r)).ok O nx v O' w8):Y9 M K w ⟨dst, .makeMap t r,ty,pos,af,gd⟩ ρ v O' w8:=by
 have fin:(wW.new (.mp (.loc nx)) (.mp [])).ok O nx v O' w8->(Instr.makeMap t (r.map ρ)).run M.P w= .ok (.map (some w.heap.size)) (X5 w (.map #[] 0))->Y9 M K w ⟨dst, .makeMap t r,ty,pos,af,gd⟩ ρ v O' w8:=by
  rintro⟨rfl,rfl,rfl⟩ hrun;exact⟨_,_,_, .inl (by simp[execOp,hrun];rfl),zC _ _,Zjg A.H,by simp only[Den];exact⟨_,ZR A.H.len _,rfl⟩,fun _ h=>absurd h (by simp)⟩
 simp only[qH,PG]at hr;cases r with
 |none=>exact fin hr (by simp[Instr.makeMap,newObj];rfl)
 |some x=>
  simp only at hr;split at hr
  case h_2=>exact hr.elim
  rename_i kt et hs;split at hr
  case h_2=>exact hr.elim
  rename_i k n hx;obtain⟨d,hd,hm⟩:=A.T.jk t (by rw[hs];simp);rw[hs]at hm;simp only[jg]at hm;subst hm;have wU:ρ x= .int k n:=A.L _ _ hx;exact fin hr (by simp[Instr.makeMap,newObj,Z8 hd,wU,asInt];rfl)
theorem Gf(A:At M K w O nx ρ lk){t:TypeId}{f:SV->wW}(hr:(sV M.C.T t f).ok O nx v O' w8):∃z zv,(zeroValue t).run M.P w= .ok zv w/\Den K z zv/\(f z).ok O nx v O' w8:=by
 unfold sV at hr;split at hr
 exact hr.elim;rename_i c cs hz;split at hr
 case h_2=>exact hr.elim
 rename_i z ho;have hsh:M.C.T.sh t≠ .other:=by intro h;simp[YH,h]at ho
 obtain⟨i,zv,h1,h2,h3⟩:=DU A.T hsh (by rw[hz];simp) (by rw[hz];exact ho) K;exact⟨z,zv,Jo h1 h2 w,h3,hr⟩
theorem Ub{z:SV}{zv:Value}{ok b:Bool}(h:Den K z zv):Den K (sW ok z b) (if ok=true then .tuple #[zv, .bool b]else zv):=by
 cases ok with
 |false=>exact h
 |true=>simp only[sW,Den,w6];exact⟨[zv, .bool b],rfl,zv,_,rfl,h,_,[],rfl,rfl,rfl⟩
theorem WE{rs:List (List DC)}{j:Nat}{k v d:DC}(h:rs[j]?=some [k,v]):rs.modify j (fO d)=q9 rs j 1 d:=by
 unfold q9;apply yx;intro i;rw[yp,yp];by_cases hi:j=i
 subst hi;rw[h];rfl;simp[hi]
theorem Z6H(A:At M K w O nx ρ lk){kt et:TypeId}{ks:Bool×List CK}{key:SV}{ok:Bool}{b:qP}{u:Value}{e:kM}(hks:M.C.T.key kt=some ks)(hdk:Den K key u)(he:K.get b=some (some e))
 (hr:(Dw M.C O nx ks et key ok b).ok O nx v O' w8):∃es r η',w.heap[e.g]?=some (.map es es.size)/\(Instr.checkKey es.isEmpty 10000 kt u).run M.P w= .ok () w/\
   (do let(v,ok')<-match<-Instr.findKey kt u es.toList with
     |some (_,v)=>pure (v,true)
     |none=>pure (<-zeroValue et,false)
       pure (if ok=true then .tuple #[v, .bool ok']else v):Sem Value).run M.P w= .ok r w/\K<+:η'/\uY M η' w O' w8/\Den η' v r:=by
 unfold Dw at hr;split at hr
 case h_2=>exact hr.elim
 rename_i i;split at hr
 case h_2=>exact hr.elim
 rename_i es rs hb;obtain⟨⟨dK,hro⟩,hr⟩:=hr;have wA:=(A.H.own.1 i _ hb).1;have gK:=wA;simp only[uZ]at gK;obtain⟨⟨⟨e',qi,h1,h2,h3,h4,h5⟩,_⟩,_⟩:=gK;rw[he]at h1;injection h1 with h1;injection h1 with h1;subst h1
 obtain⟨f,hf,qu,hval⟩:=VF A.T hks dK hdk (w:=w) hro (iE (es:=qi.toList) (i:=0) (by simpa using h4) fun j row hj=>by
  obtain⟨en,g1,g2,g3⟩:=h5 j row hj
  exact⟨en,by simpa using g1,by omega,g3⟩)
 have jA:=(A.T.key kt ks hks).1 w K qi.isEmpty key u dK hdk;rw[WC]at qu;cases hm:findD ks key 0 rs with
 |none=>
  rw[hm]at hr qu;obtain⟨z,zv,hz,aC,hr⟩:=Gf A hr;have qu:f=none:=qu;subst qu;obtain⟨rfl,rfl,rfl⟩:=hr;exact⟨qi,_,K,h3,jA,by simp[hf,hz],zw,A.H,Ub aC⟩
 |some p=>
  obtain⟨j,d⟩:=p;rw[hm]at hr qu;simp only[Option.map_some]at qu;obtain⟨xv,rfl,cW⟩:=qu;obtain⟨en,rM,wU⟩:=hval j xv rfl;obtain⟨k0,_,hrow,_⟩:=HI hm;rw[Nat.sub_zero]at hrow;simp only[PI]at hr;cases d with
  |v s=>
   obtain⟨rfl,rfl,rfl⟩:=hr;exact⟨qi,_,K,h3,jA,by simp[hf],zw,A.H,Ub cW⟩
  |wZ es' rows=>
   obtain⟨rfl,rfl,rfl⟩:=hr;obtain⟨x,hH⟩:=A.H.take hb hrow (c:=1) rfl;rw[WE hrow];have hsome:(wu i O).isSome:=by rw[hb];rfl
   have mE:i≠nx:=fun h=>by have:=A.H.lt hb;omega
   have hs2:=(hH.own.1 i (.deep true es (q9 rs j 1 (.v (.sl (.loc nx) 0 es' rows.length none)))) (by rw[Za,z7 mE,Y0 i _ O i hsome,zh rfl])).1;obtain⟨e2,o2,v2,q1,q2,q3,q4,_⟩:=W7 hs2 (r:=j) (c:=1) (row:=[k0, .v (.sl (.loc nx) 0 es' rows.length none)]) (by rw[Ys,zh rfl,hrow];rfl) rfl;have kZ:(K++ [x]).get (.loc i)=some (some e):=Env.wE (zC _ _) he;rw[kZ]at q1;injection q1 with q1;injection q1 with q1;subst q1
   rw[h3]at q2;injection q2 with q2;subst q2
   have pY:qi[j]?=some en:=by simpa using rM
   simp only[ZJ,pY,Option.map_some,zj]at q3;subst q3 wU;exact⟨qi,_,_,h3,jA,by simp[hf],zC _ _,hH,Ub q4⟩
theorem ZgV(A:At M K w O nx ρ lk)(t:TypeId)(x i:Operand)(ok:Bool)(hr:(qH M.C lk O nx (.lookup t x i ok)).ok O nx v O' w8):Y9 M K w ⟨dst, .lookup t x i ok,ty,pos,af,gd⟩ ρ v O' w8:=by
 simp only[qH,PJ]at hr;split at hr
 case h_2=>exact hr.elim
 rename_i kt et hs;obtain⟨d,hd,hm⟩:=A.T.jk t (by rw[hs];simp);rw[hs]at hm;simp only[jg]at hm;subst hm;split at hr
 case h_2=>exact hr.elim
 rename_i ks hks;split at hr
 case h_2=>exact hr.elim
 rename_i key hi;have tj:=Nl A.L hi;split at hr
 .rename_i b hx;split at hr
  case h_2=>
   have wU:=A.L _ _ hx;simp only[Den]at wU;obtain⟨e,he,hv⟩:=wU;obtain⟨es,r,η',g1,g2,g3,g4,g5,g6⟩:=Z6H A hks tj he hr
   have hrun:(Instr.lookup t (ρ x) (ρ i) ok).run M.P w= .ok r w:=by
    rw[<-g3];simp[Instr.lookup,Z8 hd,hv,JO g1,g2]
    rfl
   exact⟨r,w,η', .inl (by simp[execOp,hrun]),g4,g5,g6,fun _ _=>rfl⟩
  rename_i rs hb;obtain⟨⟨dK,hro⟩,hr⟩:=hr;have wU:=A.L _ _ hx;simp only[Den]at wU;obtain⟨e,he,hv⟩:=wU;have wA:=A.H.look hb;simp only[uZ]at wA;obtain⟨e',es,h1,h2,h3,h4,h5⟩:=wA;rw[he]at h1;cases h1
  obtain⟨f,hf,qu⟩:=Ur A.T hks dK tj (w:=w) hro (iE (es:=es.toList) (i:=0) (by simpa using h4) fun j row hj=>by
   obtain⟨en,g1,g2,g3⟩:=h5 j row hj
   exact⟨en,by simpa using g1,by omega,g3⟩)
  have jA:=(A.T.key kt ks hks).1 w K es.isEmpty key (ρ i) dK tj;cases hm:U6 ks key 0 rs with
  |some p=>
   obtain⟨j,u⟩:=p;rw[hm]at hr qu;obtain⟨xv,rfl,cW⟩:=qu;exact A.val hr ⟨_, .inl (by simp[execOp,Instr.lookup,Z8 hd,hv,JO h3,jA,hf]),Ub cW⟩
  |none=>
   rw[hm]at hr qu;obtain⟨z,zv,hz,aC,hr⟩:=Gf A hr;have qu:f=none:=qu;subst qu;exact A.val hr ⟨_, .inl (by simp[execOp,Instr.lookup,Z8 hd,hv,JO h3,jA,hf,hz]),Ub aC⟩
 .rename_i hx;obtain⟨dK,hr⟩:=hr;have hv:ρ x= .map none:=(A.L _ _ hx).1;have jA:=(A.T.key kt ks hks).1 w K true key (ρ i) dK tj;obtain⟨f,hf,qu⟩:=Ur A.T hks dK tj (w:=w) (rs:=[]) (es:=[]) (fun r h=>by simp at h) trivial;have qu:f=none:=qu;subst qu;obtain⟨z,zv,hz,aC,hr⟩:=Gf A hr;exact A.val hr ⟨_, .inl (by simp[execOp,Instr.lookup,Z8 hd,hv,jA,hf,hz]),Ub aC⟩
 exact hr.elim
theorem NY{rs:List (List DC)}{r c a:Nat}{d:DC}(h:nK rs r c=some (a,d)):∃row,rs[r]?=some row/\row[c]?=some d:=by
 unfold nK at h;split at h
 .rename_i row hr;split at h
  .rename_i d' hc;injection h with h;injection h with _ h;subst h;exact⟨row,hr,hc⟩
  cases h
 cases h
theorem NZ(hT:qa M.P M.C.T){own:Bool}{i es:Nat}{rs:List (List DC)}(d:uZ K w own (.loc i) (.deep false es rs)){r c:Nat}{row:List DC}{sv v:SV}{e:kM}{t:TypeId}
 (hr:rs[r]?=some row) (hc:row[c]?=some (.v sv)) (he:K.get (.loc i)=some (some e)) (h1:M.C.T.size t=1) (ho:YH M.C.T t [sv]=some v):
 ∃u,(loadVar t ⟨e.g,e.base+(r*es+c),none⟩).run M.P w= .ok u w/\Den K v u:=by
 simp only[uZ]at d;obtain⟨d1,_⟩:=d;have hfr:(ZB rs)[r]?=some (row.map ZT):=by rw[Yb,hr];rfl
 rcases d1 with⟨h,_⟩|⟨e',arr,T,fz,h2,h3,_,h4⟩
 rw[he]at h;cases h;rw[he]at h2;injection h2 with h2;injection h2 with h2;subst h2
 obtain⟨h5,h6⟩:=h4 r _ hfr
 have hp:oy M.C.T t c (row.map ZT)= .val v:=by
  unfold oy;have hlt:=(zf.1 hc).1
  have hd:(row.map ZT).drop c=sv::(row.map ZT).drop (c+1):=by
   rw[zq (by simpa using hlt)];congr 1;have:=(zf.1 hc).2;rw[yz,this];rfl
  rw[hd,h1];simp only[pU,ho]
 obtain⟨_,_,u,hu,hd⟩:=Hz (v:=v) (O:=([]:w9)) (nx:=0) (O':=[]) (w8:=0) hT h3 h6 (by rw[hp];exact⟨rfl,rfl,rfl⟩);exact⟨u,by rw[<-xw];exact hu,hd⟩
theorem Zl2(A:At M K w O nx ρ lk)(t:TypeId)(x:Operand)(hr:(qH M.C lk O nx (.load t x)).ok O nx v O' w8):Y9 M K w ⟨dst, .load t x,ty,pos,af,gd⟩ ρ v O' w8:=by
 simp only[qH,Pn]at hr;split at hr
 case h_2=>exact hr.elim
 rename_i p hx
 have plain:∀{hr:(K0 M.C.T (Yk M.C O) t p).ok O nx v O' w8},Y9 M K w ⟨dst, .load t x,ty,pos,af,gd⟩ ρ v O' w8:=fun{hr}=>by
  obtain⟨e1,e2,a,u,h1,h2,h3⟩:=Np A.T A.H (A.L _ _ hx) hr;exact A.same (.inl (by simp[execOp,h1,Instr.loadAt,Instr.sureAddr,h2])) h3 e1 e2
 split at hr
 .rename_i i r es c;split at hr
  .rename_i es' rs hb;split at hr
   .rename_i qX hsz;have qX:=Zs qX;have hsz:=Zs hsz;subst qX;have wU:=A.L _ _ hx;simp only[Den]at wU;obtain⟨e,he,hv⟩:=wU;cases hcd:nK rs r c with
    |none=>rw[hcd]at hr;exact hr.elim
    |some p=>
     obtain⟨a,d⟩:=p;rw[hcd]at hr;have hr:(Hr M.C nx i es rs r c t d).ok O nx v O' w8:=hr;obtain⟨row,hrow,hcell⟩:=NY hcd;have wA:=(A.H.own.1 i _ hb).1;cases d with
     |v sv=>
      simp only[Hr]at hr;split at hr
      .rename_i v0 ho;obtain⟨u,hu,hd⟩:=NZ A.T wA hrow hcell he hsz ho;exact A.val hr ⟨u, .inl (by simp[execOp,hv,Instr.loadAt,Instr.sureAddr,hu]),hd⟩
      exact hr.elim
     |wZ es' rows=>
      simp only[Hr]at hr;split at hr
      .rename_i q hs;obtain⟨rfl,rfl,rfl⟩:=hr;obtain⟨x,hH⟩:=A.H.take hb hrow hcell;have hsome:(wu i O).isSome:=by rw[hb];rfl
       have mE:i≠nx:=fun h=>by have:=A.H.lt hb;omega
       have hs2:=(hH.own.1 i (.deep false es (q9 rs r c (.v (.sl (.loc nx) 0 es' rows.length none)))) (by rw[Za,z7 mE,Y0 i _ O i hsome,zh rfl])).1;have kZ:(K++ [x]).get (.loc i)=some (some e):=Env.wE (zC _ _) he;obtain⟨u,hu,hd⟩:=NZ A.T hs2 (r:=r) (c:=c) (row:=row.set c (.v (.sl (.loc nx) 0 es' rows.length none))) (by rw[Ys,zh rfl,hrow];rfl) (by rw[vu (zf.1 hcell).1]) kZ hsz (v:= .sl (.loc nx) 0 es' rows.length none) (by simp only[YH,hs]);exact⟨u,w,_, .inl (by simp[execOp,hv,Instr.loadAt,Instr.sureAddr,hu]),zC _ _,hH,hd,fun _ _=>rfl⟩
      exact hr.elim
   exact hr.elim
  exact plain (hr:=hr)
 exact plain (hr:=hr)
end
