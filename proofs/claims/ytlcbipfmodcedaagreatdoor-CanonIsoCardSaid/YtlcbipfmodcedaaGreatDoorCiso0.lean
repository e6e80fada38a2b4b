/- Part 0: Ali, RowM, SxDef, SxRun, SxLaws, SxOpsA, SxOpsB, SxOpsC, SxOpsD, SxOpsE, SxOpsF, SxOpsG, SxOpsH, SxOpsM, SxDeep. Conditions: as each part says. -/
import Derived.Below
import Derived.ProofKit
import Derived.OpenShut
import Derived.SizedLaws
import Derived.Deep.Slices
import Derived.Deep.DeepHandedRow
import Derived.Lib.LaidTab
import Derived.WalkKit
import Derived.Scope
import Derived.KernelRfl
import Derived.Lib.FrozenHead
import Derived.TacticsIn
import Derived.OrdersIn
import Derived.RangeFuncRecord
import Derived.Laws.CopyRow
import Derived.Laws.MakeOwn
namespace Go
abbrev z1:=@List.getElem?_eq_getElem
abbrev z6:=@if_neg
abbrev z7:=@List.getElem?_map
abbrev z8:=@if_pos
abbrev ze:=@List.length_append
abbrev zf:=@congrArg
abbrev zg:=@List.getElem?_eq_some_iff
abbrev zh:=@Option.some.injEq
abbrev zi:=@List.getD_eq_getElem?_getD
abbrev zj:=@List.length_map
abbrev zk:=@Bool.and_eq_true
abbrev zn:=@Nat.le_refl
abbrev zo:=@List.take_of_length_le
abbrev zq:=@List.getElem_mem
abbrev zu:=@List.getElem?_append_left
abbrev zw:=@Nat.zero_add
abbrev zx:=@List.prefix_rfl
abbrev zy:=@List.idxOf_lt_length_of_mem
abbrev zz:=@List.getElem?_append_right
abbrev zA:=@List.length_take
abbrev zB:=@List.take_succ_eq_append_getElem
abbrev zC:=@Array.getElem?_eq_some_iff
abbrev zD:=@List.prefix_append
abbrev zF:=@List.mem_cons_self
abbrev zG:=@List.mem_cons_of_mem
abbrev zH:=@Option.map_eq_some_iff
abbrev zI:=@List.mem_cons
abbrev zJ:=@List.mem_singleton
abbrev zK:=@Nat.le_trans
abbrev zL:=@List.map_cons
abbrev zM:=@List.mem_map
abbrev zN:=@List.all_eq_true
abbrev zO:=@List.length_eq_zero_iff
abbrev zP:=@Nat.le_of_ble_eq_true
abbrev zQ:=@List.drop_eq_getElem_cons
abbrev zR:=@List.append_assoc
abbrev zS:=@Bool.and_self
abbrev zT:=@List.length_replicate
abbrev zU:=@List.append_nil
abbrev zV:=@List.getElem_idxOf
abbrev zW:=@List.length_drop
abbrev zX:=@List.mem_append
abbrev zY:=@List.mem_range
abbrev zZ:=@List.map_congr_left
abbrev y4:=@List.getElem?_take
abbrev y5:=@Array.getD_eq_getD_getElem?
abbrev y6:=@Bool.and_true
abbrev y7:=@Array.getElem?_modify
abbrev y8:=@List.mem_of_getElem?
abbrev y9:=@List.getElem_map
abbrev ya:=@Array.getElem?_append_left
abbrev yb:=@List.take_length
abbrev yc:=@List.size_toArray
abbrev yd:=@List.getElem?_eq_none
abbrev ye:=@List.getElem?_drop
abbrev yg:=@List.mem_iff_getElem
abbrev yh:=@Bool.eq_iff_iff
abbrev yj:=@List.ext_getElem?
abbrev yl:=@Nat.mul_le_mul_right
abbrev ym:=@List.getElem?_modify
abbrev yo:=@List.map_append
abbrev yp:=@decide_eq_false
abbrev yq:=@List.map_map
abbrev yt:=@decide_eq_true_iff
abbrev yu:=@Decidable.byContradiction
abbrev yw:=@List.length_range
abbrev yx:=@dif_pos
abbrev yy:=@List.ext_getElem
abbrev yz:=@List.getElem?_range
abbrev yA:=@decide_eq_true
abbrev yB:=@Nat.succ_mul
abbrev yC:=@Array.ext'
abbrev yD:=@Nat.lt_or_ge
abbrev yE:=@List.length_mergeSort
abbrev yF:=@Prod.mk.injEq
abbrev yG:=@List.drop_eq_nil_of_le
abbrev yH:=@if_true
abbrev yI:=@Nat.lt_of_lt_of_le
abbrev yJ:=@List.getElem?_toArray
abbrev yK:=@List.length_filter_le
abbrev yL:=@decide_eq_false_iff_not
abbrev yM:=@Array.getElem?_eq_getElem
abbrev yN:=@decide_eq_true_eq
abbrev yO:=@Ne.symm
abbrev yP:=@dif_neg
abbrev yQ:=@Nat.zero_mul
abbrev yR:=@List.pairwise_iff_getElem
abbrev yS:=@List.getElem_range
abbrev yT:=@Array.getElem?_setIfInBounds
abbrev yU:=@Nat.blt_eq
abbrev yV:=@List.mergeSort_perm
abbrev yW:=@List.cons.inj
abbrev yX:=@List.map_nil
abbrev yY:=@List.mem_filter
abbrev yZ:=@List.getElem_inj
abbrev x4:=@List.drop_drop
abbrev x5:=@List.cons.injEq
abbrev x6:=@Bool.false_eq_true
abbrev x7:=@List.map_replicate
abbrev x8:=@Nat.zero_le
abbrev x9:=@not_false_eq_true
abbrev xb:=@List.nodup_cons
abbrev xd:=@List.take_append_drop
abbrev xe:=@List.set_append_right
abbrev xg:=@List.pairwise_cons
abbrev xh:=@List.not_mem_nil
abbrev xk:=@List.getElem?_replicate
abbrev xl:=@List.getElem?_set
abbrev xm:=@if_false
abbrev xo:=@Array.size_mapIdx
abbrev xq:=@List.nil_prefix
abbrev xu:=@List.mem_map_of_mem
abbrev xw:=@List.getElem_replicate
abbrev xx:=@Nat.add_assoc
abbrev xy:=@List.mem_flatMap
abbrev xA:=@List.drop_zero
abbrev xB:=@Nat.add_mul
abbrev xC:=@beq_iff_eq
abbrev xD:=@Bool.or_eq_true
abbrev xE:=@List.eq_of_mem_replicate
abbrev xF:=@Bool.true_and
abbrev xG:=@List.any_eq_true
abbrev xH:=@Nat.le_succ
abbrev xI:=@Nat.mul_one
abbrev xJ:=@Array.getElem?_eq_none
abbrev xK:=@Option.map_eq_none_iff
abbrev xL:=@Array.ext_getElem?
abbrev xM:=@Nat.lt_or_eq_of_le
abbrev xN:=@Nat.min_eq_left
abbrev xO:=@List.mem_append_right
abbrev xP:=@Bool.not_true
abbrev xQ:=@Bool.false_or
abbrev xR:=@List.nodup_iff_pairwise_ne
abbrev xS:=@Array.size_modify
abbrev xT:=@Array.size_append
abbrev xU:=@List.nodup_append
abbrev xV:=@Array.size_replicate
abbrev xW:=@List.mem_append_left
abbrev xX:=@Classical.byContradiction
abbrev xY:=@Iff.rfl
abbrev xZ:=@List.map_set
abbrev v7:=@true_and
abbrev v8:=@Nat.sub_self
abbrev ve:=@decide_eq_decide
abbrev vg:=@List.nodup_range
abbrev vh:=@Array.getElem?_push
abbrev vi:=@List.getElem_modify
abbrev vj:=@List.length_zipWith
abbrev vk:=@List.mem_singleton_self
abbrev vl:=@List.all_append
abbrev vm:=@Nat.eq_zero_or_pos
abbrev vn:=@List.eq_nil_iff_forall_not_mem
abbrev vo:=@List.filter_map
abbrev vp:=@and_true
abbrev vq:=@List.take_append_of_le_length
abbrev vr:=@Bool.not_eq_true'
abbrev vt:=@List.foldl_append
abbrev vu:=@List.flatMap_cons
abbrev vv:=@List.getElem_take
abbrev vw:=@Nat.mul_comm
abbrev vz:=@UInt8.lt_iff_toNat_lt
abbrev vA:=@Array.getElem?_mapIdx
abbrev vB:=@List.eq_replicate_iff
abbrev vC:=@List.mem_of_mem_drop
abbrev vD:=@Bool.cond_eq_ite
abbrev vE:=@List.drop_succ_cons
abbrev vF:=@List.getElem_of_mem
abbrev vG:=@List.length_set
abbrev vH:=@List.getElem_append_right
abbrev vI:=@Option.isSome_iff_exists
abbrev vJ:=@List.length_modify
abbrev vK:=@Int.lt_or_eq_of_le
abbrev vL:=@UInt8.toNat_ofNat_of_lt'
abbrev vM:=@UInt8.toNat_ofNat'
abbrev vN:=@List.mergeSort_singleton
abbrev vO:=@List.mapM_cons
abbrev vP:=@Option.map_map
abbrev vQ:=@Nat.add_sub_cancel_left
abbrev vR:=@Option.bind_eq_some_iff
abbrev vS:=@List.filter_congr
abbrev vT:=@List.pairwise_map
end Go
set_option linter.unusedVariables false
namespace Go.Our
open Go.RowKit Go.ChangeShapes Go.WideShapes Go.ChangeAt
section
variable {H:Type}{enc:TypeId×Value->H}{P:Program}
theorem WS(hl:laidOutB P=true){W W':World}(hb:Below W.heap.size W W'):
 ∀(ts:List TypeId) (vs:List Value) (ds:List (DataW H)) (ps:List MemPlace),(∀t∈ts,P.readableRec t=true/\t<P.types.size)->
  DataW.TrodAll enc P W 0 (fun _=>true) true ts vs ds ps->(∀x∈ps,x.block<W.heap.size)->DataW.TrodAll enc P W' 0 (fun b=>decide (b<W.heap.size)) true ts vs ds ps
 | [],[],[],ps,_,h,_=>h
 |t::ts,v::vs,d::ds,ps,ht,⟨p,q,h1,h2,hpq⟩,hlt=>
  ⟨p,q,Below.trod hl (ht t (by simp)).1 (ht t (by simp)).2 h1 hb (fun x hx=>hlt x (by rw[hpq];simp[hx])),
   WS hl hb ts vs ds q (fun t' h'=>ht t' (by simp[h'])) h2 (fun x hx=>hlt x (by rw[hpq];simp[hx])),hpq⟩
 | [],[],_::_,_,_,h,_=>h.elim
 | [],_::_,_,_,_,h,_=>h.elim
 |_::_,[],_,_,_,h,_=>h.elim
 |_::_,_::_,[],_,_,h,_=>h.elim
theorem I1{f:Func}{s:ChangeSpec}{W W':World}{args:Array Value}{ds gs:List (DataW H)}{before:List MemPlace}{tb:TypeId}
 (hl:laidOutB P=true) (hts:∀t∈f.params.toList,P.readableRec t=true/\t<P.types.size) (hr:f.resultTypes= #[tb]) (QJ:P.underlying tb=some .bool)
 (hW:DataW.Whole enc P f.params.toList s.vars false W args.toList ds gs before) (hvars:s.vars=[]) (hres:(s.fn H (ds++gs)).results=[.lit (.bool true)]) (hargs:(s.fn H (ds++gs)).args=ds)
 (hv:(s.fn H (ds++gs)).vars=[]) (hb:Below W.heap.size W W'):s.post enc P f false true false false W args (.bool true) W':=by
 have hlt:=hW.lt;have hW':=hW;obtain⟨p,q,hA,hV,hpq,hfz,hnd⟩:=hW;refine⟨ds,gs,before,[],p,[],hW',?_,?_,?_,hb.frame _,fun h=>by cases h⟩
 .rw[hres,hr];exact trodAll_mk1 (shut_bool QJ true)
 .rw[hargs];exact WS hl hb _ _ _ _ hts hA (fun x hx=>by simpa using hlt x (by rw[hpq];simp[hx]))
 .rw[hv,hvars]
  rfl
theorem AO{l r:List Nat}(h:(l++r).all (· <=reachBytes)=true):l.all (· <=reachBytes)=true:=by rw[vl,zk]at h;exact h.1
theorem I2{l r:List Nat}(h:(l++r).all (· <=reachBytes)=true):r.all (· <=reachBytes)=true:=by rw[vl,zk]at h;exact h.2
end
end Go.Our
namespace Go.Sx
open Go
inductive wG where
 |uM (g:Nat)
 |loc (i:Nat)
inductive SV where
 |bool (b:Bool)
 |int (k:IntKind) (n:Int)
 |str (s:List UInt8)
 |ptr (b:wG) (r es c:Nat)
 |sl (b:wG) (r es len:Nat) (lim:Option Nat)
 |val (v:Value)
 |agg (cs:List SV)
 |arr (es:Nat) (rs:List (List SV))
 |uI (vs:List SV)
 |gR (t:TypeId) (v:SV)
 |fn (f:Fn) (first cap:List SV)
 |mp (b:wG)
 |yf (b:wG)
 |jQ (l:List SV)
 |nb (n:Nat)
 |any
structure mH where
 N:Nat
 ps:List Nat
 eD:Code
 body:Code
inductive aY where
 |ready|busy|left (jump:Option Nat)
inductive DC where
 |v (s:SV)
 |uC (es:Nat) (rows:List (List SV))
inductive Hp where
 |box (row:List SV)
 |rows (es:Nat) (rs:List (List SV))
 |wI (s:List UInt8) (pos:Nat)
 |cI (vs:List Value)
 |kH (T e:TypeId) (l:List UInt8)
 |mp (rs:List (List SV))
 |gJ (far:List Nat)
 |lp (st:aY) (li:mH) (fr:List (Nat×SV))
 |deep (mp:Bool) (es:Nat) (rs:List (List DC))
mutual
def plain:SV->Bool
 | .bool _| .int _ _| .str _| .val _| .any| .nb _=>true
 | .ptr (.uM _) _ _ _=>true
 | .ptr (.loc _) _ _ _=>false
 | .sl (.uM _) _ _ _ _=>true
 | .sl (.loc _) _ _ _ _=>false
 | .agg cs=>YN cs
 | .arr _ rs=>Zj rs
 | .uI vs=>YN vs
 | .gR _ v=>plain v
 | .fn _ a b=>YN a&&YN b
 | .mp (.uM _)=>true
 | .mp (.loc _)=>false
 | .yf _=>false
 | .jQ _=>false
def YN:List SV->Bool
 | []=>true
 |c::cs=>plain c&&YN cs
def Zj:List (List SV)->Bool
 | []=>true
 |r::rs=>YN r&&Zj rs
end
def iX:List (Nat×SV)->Bool
 | []=>true
 |(_,v)::r=>plain v&&iX r
def Jl:DC->Bool
 | .v s=>plain s
 | .uC _ rs=>Zj rs
def Yi:List DC->Bool
 | []=>true
 |c::cs=>Jl c&&Yi cs
def ZD:List (List DC)->Bool
 | []=>true
 |r::rs=>Yi r&&ZD rs
def JU:Hp->Bool
 | .box row=>YN row
 | .rows _ rs=>Zj rs
 | .wI _ _=>true
 | .cI _=>true
 | .kH _ _ _=>true
 | .mp rs=>Zj rs
 | .gJ _=>true
 | .lp _ _ fr=>iX fr
 | .deep _ _ rs=>ZD rs
inductive Sh where
 |int (k:IntKind)|bool|str
 |ptr (e:TypeId)|slice (e:TypeId)|array (n:Nat) (e:TypeId)
 |struct (fs:List (Nat×TypeId))
 |map (k e:TypeId)|iface|func|plain|other
inductive CK where
 |int (k:IntKind)|str|bool
structure qg where
 sh:TypeId->Sh
 size:TypeId->Nat
 zero:TypeId->List SV
 bytes:TypeId->Nat
 flat:TypeId->Option (List CK)
 qS:List (Nat×Hp):=[]
 kH:Option (TypeId×TypeId):=none
 key:TypeId->Option (Bool×List CK):=fun _=>none
 dK:(qS.all fun p=>JU p.2)=true:=by rfl
def u6{Y:Type}(t:Nat):List (Nat×Y)->Option Y
 | []=>none
 |(d,v)::r=>match Nat.beq t d with|true=>some v|false=>u6 t r
def aZ:wG->wG->Bool
 | .uM a, .uM b=>Nat.beq a b
 | .loc a, .loc b=>Nat.beq a b
 |_,_=>false
def kI{Y:Type}(b:wG):List (wG×Y)->Option Y
 | []=>none
 |(d,v)::r=>match aZ b d with|true=>some v|false=>kI b r
def uO{Y:Type}(t:Nat)(v:Y):List (Nat×Y)->List (Nat×Y)
 | []=>[]
 |(d,u)::r=>match Nat.beq t d with|true=>(d,v)::r|false=>(d,u)::uO t v r
def wh{Y:Type}(t:Nat):List (Nat×Y)->List (Nat×Y)
 | []=>[]
 |(d,u)::r=>match Nat.beq t d with|true=>wh t r|false=>(d,u)::wh t r
def nth{Y:Type}:List Y->Nat->Option Y
 | [],_=>none
 |x::_,0=>some x
 |_::r,n+1=>nth r n
def XF:IntKind->IntKind->Bool
 | .i8, .i8| .i16, .i16| .i32, .i32| .i64, .i64| .u8, .u8| .u16, .u16| .u32, .u32| .u64, .u64=>true
 |_,_=>false
def gU(k:IntKind)(a b:Int):Int:=k.wrap ((BitVec.ofInt k.bits a&&&BitVec.ofInt k.bits b).toNat)
def QK(k:IntKind)(a b:Int):Int:=k.wrap ((BitVec.ofInt k.bits a|||BitVec.ofInt k.bits b).toNat)
def oS(k:IntKind)(a b:Int):Int:=k.wrap ((BitVec.ofInt k.bits a^^^BitVec.ofInt k.bits b).toNat)
def AP(k:IntKind)(a b:Int):Int:=k.wrap ((BitVec.ofInt k.bits a&&& ~~~(BitVec.ofInt k.bits b)).toNat)
def oT(k:IntKind)(a b:Int):Int:=k.wrap (a*2^ (min b.toNat k.bits))
def QL(k:IntKind)(a b:Int):Int:=a.fdiv (2^ (min b.toNat k.bits))
def Zm(s:List UInt8)(i:Int):Int:=((s.getD i.toNat 0).toNat:Int)
def QM(a b:List UInt8):Bool:=Op.bytesLess a b
inductive uz where
 |val (v:SV)
 |new (v:SV) (h:Hp)
 |jK (i:Nat) (h:Hp) (v:SV)
 |fE (i:Nat) (h:Hp) (v:SV)
 |need (p:Prop) (k:uz)
 |get (rs:List (List SV)) (i:Nat) (k:List SV->uz)
 |ite (b:Bool) (x y:uz)
 |find (r:Option (Nat×SV)) (f:Nat->SV->uz) (x:uz)
 |findD (r:Option (Nat×DC)) (f:Nat->DC->uz) (x:uz)
 |take (i:Nat) (h h2:Hp) (v:SV)
 |jL (i:Nat) (h:Hp) (k:Nat) (v:SV)
 |fail
def EM(op:BinOp)(k k':IntKind)(a b:Int):uz:=
 match op with
 | .shl=> .need (0<=b) (.val (.int k (oT k a b)))
 | .shr=> .need (0<=b) (.val (.int k (QL k a b)))
 |_=>match XF k k' with
  |false=> .fail
  |true=>match op with
   | .add=> .val (.int k (k.wrap (a+b)))
   | .sub=> .val (.int k (k.wrap (a-b)))
   | .mul=> .val (.int k (k.wrap (a*b)))
   | .quo=> .need (b≠0) (.val (.int k (k.wrap (a.tdiv b))))
   | .rem=> .need (b≠0) (.val (.int k (a.tmod b)))
   | .and=> .val (.int k (gU k a b))
   | .or=> .val (.int k (QK k a b))
   | .xor=> .val (.int k (oS k a b))
   | .andNot=> .val (.int k (AP k a b))
   | .eql=> .val (.bool (a==b))
   | .neq=> .val (.bool (a !=b))
   | .lss=> .val (.bool (decide (a<b)))
   | .leq=> .val (.bool (decide (a<=b)))
   | .gtr=> .val (.bool (decide (b<a)))
   | .geq=> .val (.bool (decide (b<=a)))
   |_=> .fail
def EN(op:BinOp)(a b:List UInt8):uz:=
 match op with
 | .add=> .need (a.length+b.length<=9223372036854775807) (.val (.str (a++b)))
 | .eql=> .val (.bool (a==b))
 | .neq=> .val (.bool (a !=b))
 | .lss=> .val (.bool (QM a b))
 | .leq=> .val (.bool (QM a b||a==b))
 | .gtr=> .val (.bool (!(QM a b||a==b)))
 | .geq=> .val (.bool (!(QM a b)))
 |_=> .fail
def Zi:List CK->List SV->List SV->Option Bool
 | [],[],[]=>some true
 | .int k::ks, .int k1 a::xs, .int k2 b::ys=>
   match XF k k1&&XF k k2,Zi ks xs ys with
   |true,some r=>some (a==b&&r)
   |_,_=>none
 | .str::ks, .str a::xs, .str b::ys=>match Zi ks xs ys with|some r=>some (a==b&&r)|none=>none
 | .bool::ks, .bool a::xs, .bool b::ys=>match Zi ks xs ys with|some r=>some (a==b&&r)|none=>none
 |_,_,_=>none
def cellsOf:SV->Option (List SV)
 | .agg cs=>some cs
 | .arr _ rs=>some rs.flatten
 | .uI _=>none
 | .any=>none
 | .nb _=>none
 | .jQ _=>none
 |v=>some [v]
def o3:Nat->List SV->Option (List SV)
 |0,_=>some []
 |n+1,c::cs=>match o3 n cs with|some r=>some (c::r)|none=>none
 |_+1,[]=>none
def Wu:List SV->List SV->Option (List SV)
 |row,[]=>some row
 |_::row,v::vs=>match Wu row vs with|some r=>some (v::r)|none=>none
 | [],_::_=>none
def V8:Nat->List SV->List SV->Option (List SV)
 |0,row,vs=>Wu row vs
 |c+1,x::row,vs=>match V8 c row vs with|some r=>some (x::r)|none=>none
 |_+1,[],_=>none
def Wa{Y:Type}:List Y->Nat->Bool
 | [],0=>true
 |_::xs,n+1=>Wa xs n
 |_,_=>false
def Jm(es:Nat):Nat->List SV->Option (List (List SV))
 |0,[]=>some []
 |0,_::_=>none
 |n+1,cs=>match o3 es cs with
  |some r=>match Jm es n (cs.drop es)with|some rs=>some (r::rs)|none=>none
  |none=>none
def Yu(T:qg)(t:TypeId)(cs:List SV):Option SV:=
 match T.sh t with
 | .struct _=>some (.agg cs)
 | .array _ _=>some (.agg cs)
 | .other=>none
 |_=>match cs with| [c]=>some c|_=>none
def Wv(T:qg)(t:TypeId)(off:Nat)(row:List SV):uz:=
 match o3 (T.size t) (row.drop off)with
 |some cs=>match Yu T t cs with|some v=> .val v|none=> .fail
 |none=> .fail
def Y0:DC->SV
 | .v s=>s
 | .uC _ _=> .any
def ZA(rs:List (List DC)):List (List SV):=rs.map fun r=>r.map Y0
def iY(T:qg)(hl:wG->Option Hp)(t:TypeId):SV->uz
 | .ptr b r es c=>
   match hl b with
   |some (.box row)=>match Nat.beq r 0 with|true=>Wv T t c row|false=> .fail
   |some (.rows es' rs)=>
    match Nat.beq es es' with
    |true=>match T.sh t with
     | .array n e=>match Nat.beq (T.size e) es with
       |true=> .need (r=0/\c=0/\rs.length=n) (.val (.arr es rs))
       |false=> .get rs r fun row=>Wv T t c row
     |_=> .get rs r fun row=>Wv T t c row
    |false=> .fail
   |some (.deep false es' rs)=>match Nat.beq es es' with
    |true=> .get (ZA rs) r fun row=>Wv T t c row
    |false=> .fail
   |_=> .fail
 |_=> .fail
def Fc(T:qg)(hO:Nat->Option Hp)(t:TypeId):SV->SV->uz
 | .ptr (.loc i) r es c,v=>
   match hO i with
   |some (.box row)=>match Nat.beq r 0,cellsOf v with
    |true,some vs=>match Wa vs (T.size t),V8 c row vs with
     |true,some row=> .jK i (.box row) (.uI [])
     |_,_=> .fail
    |_,_=> .fail
   |some (.rows es' rs)=>
    match Nat.beq es es' with
    |true=>match T.sh t with
     | .array n e=>match Nat.beq (T.size e) es,Nat.beq (T.size t) (n*es)with
       |true,true=>match v with
        | .arr fF rs'=> .need (r=0/\c=0/\fF=es/\rs'.length=n/\rs.length=n) (.jK i (.rows es rs') (.uI []))
        | .agg cs=>match Jm es n cs with
          |some rs'=> .need (r=0/\c=0/\rs.length=n) (.jK i (.rows es rs') (.uI []))
          |none=> .fail
        |_=> .fail
       |_,_=> .fail
     |_=>match cellsOf v with
      |some vs=>match Wa vs (T.size t)with
       |true=> .get rs r fun row=>match V8 c row vs with
        |some row=> .jK i (.rows es (rs.set r row)) (.uI [])
        |none=> .fail
       |false=> .fail
      |none=> .fail
    |false=> .fail
   |_=> .fail
 |_,_=> .fail
def J9:Value->SV
 | .bool b=> .bool b
 | .int k n=> .int k n
 | .string s=> .str s.data.toList
 | .agg _=> .any
 | .tuple vs=>match vs.toList with| []=> .uI []|_=> .any
 |v=> .val v
def QN:wG->(wG->Prop)->Prop
 | .uM g,K=>K (.uM g)
 | .loc i,K=>K (.loc i)
def QO:SV->(SV->Prop)->Prop
 | .bool b,K=>K (.bool b)
 | .int k n,K=>K (.int k n)
 | .str s,K=>K (.str s)
 | .ptr b r es c,K=>QN b fun b=>K (.ptr b r es c)
 | .sl b r es len lim,K=>QN b fun b=>K (.sl b r es len lim)
 | .val v,K=>K (.val v)
 | .agg cs,K=>K (.agg cs)
 | .arr es rs,K=>K (.arr es rs)
 | .uI vs,K=>K (.uI vs)
 | .gR t v,K=>K (.gR t v)
 | .fn f a b,K=>K (.fn f a b)
 | .mp b,K=>QN b fun b=>K (.mp b)
 | .yf b,K=>QN b fun b=>K (.yf b)
 | .jQ l,K=>K (.jQ l)
 | .any,K=>K .any
 | .nb n,K=>K (.nb n)
def Wh:List SV->(List SV->Prop)->Prop
 | [],K=>K []
 |c::cs,K=>QO c fun c=>Wh cs fun cs=>K (c::cs)
def Fe:SV->(SV->Prop)->Prop
 | .agg cs,K=>Wh cs fun cs=>K (.agg cs)
 | .gR t v,K=>QO v fun v=>K (.gR t v)
 | .fn f a b,K=>Wh a fun a=>Wh b fun b=>K (.fn f a b)
 |v,K=>QO v K
def Ud:List SV->(List SV->Prop)->Prop
 | [],K=>K []
 |c::cs,K=>Fe c fun c=>Ud cs fun cs=>K (c::cs)
def Ww:SV->(SV->Prop)->Prop
 | .uI vs,K=>Ud vs fun vs=>K (.uI vs)
 |v,K=>Fe v K
def lW:Hp->(Hp->Prop)->Prop
 | .box row,K=>Wh row fun row=>K (.box row)
 | .rows es rs,K=>K (.rows es rs)
 | .wI s p,K=>K (.wI s p)
 | .cI vs,K=>K (.cI vs)
 | .kH T e l,K=>K (.kH T e l)
 | .mp rs,K=>K (.mp rs)
 | .gJ f,K=>K (.gJ f)
 | .lp st li fr,K=>K (.lp st li fr)
 | .deep mp es rs,K=>K (.deep mp es rs)
def sw:List (Nat×Hp)->(List (Nat×Hp)->Prop)->Prop
 | [],K=>K []
 |(i,h)::r,K=>sw r fun r=>K ((i,h)::r)
structure IF{J:Type}(b:Bool)(A B:J->Prop)(j:J):Prop where
 t:b=true->A j
 f:b=false->B j
structure sx{J:Type}(n:Nat)(A B:J->Prop)(j:J):Prop where
 t:n=0->A j
 f:B j
structure ud(p K:Prop):Prop where
 p:p
 k:K
structure GET(rs:List (List SV))(i:Nat)(K:List SV->Prop):Prop where
 out:∃row,rs[i]?=some row/\K row
structure o4(g:Prop)(rs:List (List SV))(i:Nat)(K:List SV->Prop):Prop where
 out:∃row,(g->rs[i]?=some row)/\K row
structure jx{J:Type}(r:Option (Nat×SV))(A:Nat->SV->J->Prop)(B:J->Prop)(j:J):Prop where
 s:∀i v,r=some (i,v)->A i v j
 n:r=none->B j
structure wZ{J:Type}(r:Option (Nat×DC))(A:Nat->DC->J->Prop)(B:J->Prop)(j:J):Prop where
 s:∀i v,r=some (i,v)->A i v j
 n:r=none->B j
structure uE(why:String):Prop where
 out:False
structure Cx where
 T:qg
 N:Nat
 S:List (wG×Hp)
 ro:Option (Nat×Nat):=none
abbrev Fr:=List (Nat×SV)
abbrev u0:=List (Nat×Hp)
abbrev Gs:=List (Nat×List (Nat×Bool)×SV)
def Jx(fr:Fr):Operand->Option SV
 | .tmp t=>u6 t fr
 | .const v=>some (J9 v)
 | .global g=>some (.ptr (.uM g) 0 0 0)
 | .func f=>some (.fn (.func f) [] [])
def Yv(C:Cx)(O:u0):wG->Option Hp
 | .loc i=>match u6 i O with
   |some h=>some h
   |none=>kI (.loc i) C.S
 | .uM g=>u6 g C.T.qS
def Ff(T:qg)(t:TypeId)(f:Nat):Option (Nat×TypeId):=
 match T.sh t with
 | .struct fs=>nth fs f
 |_=>none
def qK{Y Z:Type}(f:Y->Option Z):List Y->Option (List Z)
 | []=>some []
 |x::xs=>match f x with
  |some y=>match qK f xs with|some ys=>some (y::ys)|none=>none
  |none=>none
def sy(cells:List SV)(place:Nat->Option (Nat×Nat)):List (Nat×SV)->Option (List SV)
 | []=>some cells
 |(i,v)::rest=>match place i with
  |some (off,size)=>match cellsOf v with
   |some vs=>match Wa vs size,V8 off cells vs with
    |true,some cells=>sy cells place rest
    |_,_=>none
   |none=>none
  |none=>none
def fE(n:Nat)(cs:List SV):List SV:=match n with|0=>[]|n+1=>cs++fE n cs
def Fg(T:qg)(t:TypeId)(v:SV):Option Hp:=
 match T.sh t with
 | .array _ e=>match v with
   | .agg cs=>match T.sh t with
     | .array n _=>match Jm (T.size e) n cs with|some rs=>some (.rows (T.size e) rs)|none=>none
     |_=>none
   |_=>none
 | .other=>none
 |_=>match cellsOf v with|some cs=>some (.box cs)|none=>none
def Fh(T:qg)(t:TypeId)(nx:Nat)(v:SV):uz:=
 match T.sh t,v with
 | .array n e, .arr es rs=>match Nat.beq (T.size e) es with
   |true=> .need (rs.length=n) (.new (.ptr (.loc nx) 0 es 0) (.rows es rs))
   |false=> .fail
 | .array _ e,v=>match Fg T t v with|some h=> .new (.ptr (.loc nx) 0 (T.size e) 0) h|none=> .fail
 |_,v=>match Fg T t v with|some h=> .new (.ptr (.loc nx) 0 0 0) h|none=> .fail
def EO(tb te:TypeId)(nx:Nat):SV->uz
 | .agg [.val (.pointer none), .val (.slice none 0 0)]=> .new (.ptr (.loc nx) 0 0 0) (.kH tb te [])
 |_=> .fail
def newR(T:qg)(t:TypeId)(nx:Nat)(v:SV):uz:=
 match T.kH with
 |some (tb,te)=>match Nat.beq t tb with
  |true=>EO tb te nx v
  |false=>Fh T t nx v
 |none=>Fh T t nx v
def jg:SV->SV
 | .arr _ rs=> .agg rs.flatten
 |v=>v
def Fi(lk:Operand->Option SV)(x:Operand):Option SV:=match lk x with|some k=>some (jg k)|none=>none
def ZW:Bool->SV->Option (List SV)
 |true, .agg cs=>some cs
 |true,_=>none
 |false,v=>some [v]
def Jy(ks:Bool×List CK)(a b:SV):Option Bool:=match ZW ks.1 a with
 |some xs=>match ZW ks.1 b with
  |some ys=>Zi ks.2 xs ys
  |none=>none
 |none=>none
def Wx(ks:Bool×List CK)(a b:SV):Bool:=match Jy ks a b with|some r=>r|none=>false
def Ji(ks:Bool×List CK)(a:SV):Bool:=(Jy ks a a).isSome
def X1(ks:Bool×List CK)(key:SV):Nat->List (List SV)->Option (Nat×SV)
 |_,[]=>none
 |i,r::rs=>match r with
  | [k,v]=>match Wx ks key k with
    |true=>some (i,v)
    |false=>X1 ks key (i+1) rs
  |_=>none
def Jn(ks:Bool×List CK)(rs:List (List SV)):Prop:=∀r∈rs,∃k v,r=[k,v]/\Ji ks k=true
def fM(v:SV):List SV->List SV
 | [k,_]=>[k,v]
 |r=>r
def jk(ks:Bool×List CK)(key v:SV)(rs:List (List SV)):List (List SV):=match X1 ks key 0 rs with
 |some (i,_)=>rs.modify i (fM v)
 |none=>rs++ [[key,v]]
def WT(rs:List (List DC))(r c:Nat):Option (Nat×DC):=match rs[r]? with
 |some row=>match row[c]? with
  |some d=>some (r,d)
  |none=>none
 |none=>none
def findD(ks:Bool×List CK)(key:SV):Nat->List (List DC)->Option (Nat×DC)
 |_,[]=>none
 |i,r::rs=>match r with
  | [k,v]=>match Wx ks key (Y0 k)with
    |true=>some (i,v)
    |false=>findD ks key (i+1) rs
  |_=>none
def jU(d:DC):List DC->List DC
 | [k,_]=>[k,d]
 |r=>r
def jl(ks:Bool×List CK)(key:SV)(d:DC)(rs:List (List DC)):List (List DC):=match findD ks key 0 rs with
 |some (i,_)=>rs.modify i (jU d)
 |none=>rs++ [[.v key,d]]
def Wy(T:qg)(et:TypeId)(O:List (Nat×Hp))(i:Nat)(h:DC->Hp):SV->uz
 | .sl (.loc k) r es n lim=>match r,lim with
   |0,none=>match u6 k O with
    |some (.rows es' rows)=>match Nat.beq es es' with
     |true=>match Nat.beq k i with
      |false=> .need (n<=rows.length) (.jL i (h (.uC es (rows.take n))) k (.uI []))
      |true=> .fail
     |false=> .fail
    |_=> .jK i (h (.v (.sl (.loc k) 0 es n none))) (.uI [])
   |r,lim=> .jK i (h (.v (.sl (.loc k) r es n lim))) (.uI [])
 | .val (.slice none 0 0)=>match T.sh et with
   | .slice e=> .jK i (h (.uC (T.size e) [])) (.uI [])
   |_=> .jK i (h (.v (.val (.slice none 0 0)))) (.uI [])
 |v=> .jK i (h (.v v)) (.uI [])
def gq(T:qg)(e:TypeId):SV->DC
 | .val (.slice none 0 0)=>match T.sh e with
   | .slice e'=> .uC (T.size e') []
   |_=> .v (.val (.slice none 0 0))
 |s=> .v s
def bytesRow(c:UInt8):List SV:=[.int .u8 (c.toNat:Int)]
def QS:List SV->UInt8
 | [.int _ n]=>UInt8.ofNat n.toNat
 |_=>0
def sA(O:u0):wG->Option Hp
 | .loc i=>u6 i O
 | .uM _=>none
def AQ(s:List UInt8)(lo hi:Option (Option SV)):uz:=
 match lo with
 |none=>match hi with
  |none=> .val (.str s)
  |some (some (.int _ h))=> .need (0<=h/\h<=s.length) (.val (.str (s.take h.toNat)))
  |_=> .fail
 |some (some (.int _ l))=>match hi with
  |none=> .need (0<=l/\l<=s.length) (.val (.str (s.drop l.toNat)))
  |some (some (.int _ h))=> .need (0<=l/\l<=h/\h<=s.length) (.val (.str ((s.drop l.toNat).take (h.toNat-l.toNat))))
  |_=> .fail
 |_=> .fail
def reach(O:u0)(b:wG)(r len:Nat)(lim:Option Nat):Nat:=
 match lim with
 |some _=>len
 |none=>match sA O b with
  |some (.rows _ rs)=>max len (rs.length-r)
  |_=>len
def AR(O:u0)(b:wG)(r es len:Nat)(lim:Option Nat)(lo hi mx:Option (Option SV)):uz:=
 match mx with
 |none=>match lo with
  |none=>match hi with
   |none=> .val (.sl b r es len lim)
   |some (some (.int _ h))=> .need (0<=h/\h<=(reach O b r len lim:Nat)) (.val (.sl b r es h.toNat lim))
   |_=> .fail
  |some (some (.int _ l))=>match hi with
   |none=> .need (0<=l/\l<=len) (.val (.sl b (r+l.toNat) es (len-l.toNat) lim))
   |some (some (.int _ h))=> .need (0<=l/\l<=h/\h<=(reach O b r len lim:Nat)) (.val (.sl b (r+l.toNat) es (h.toNat-l.toNat) lim))
   |_=> .fail
  |_=> .fail
 |some (some (.int _ m))=>match lo with
  |none=>match hi with
   |some (some (.int _ h))=> .need (0<=h/\h<=m/\m<=len) (.val (.sl b r es h.toNat (some (r+m.toNat))))
   |_=> .fail
  |_=> .fail
 |_=> .fail
def AV(lo hi mx:Option (Option SV)):uz:=
 match mx with
 |some _=> .fail
 |none=>match lo with
  |some _=> .fail
  |none=>match hi with
   |none=> .val (.val (.slice none 0 0))
   |some (some (.int _ h))=> .need (h=0) (.val (.val (.slice none 0 0)))
   |_=> .fail
def mb(C:Cx)(O:u0)(es:Nat):SV->Option (List (List SV)×Nat)
 | .sl b r es' len _=>match Yv C O b with
   |some (.rows fF rs)=>match Nat.beq es es' with
    |true=>match Nat.beq es fF with
     |true=>some ((rs.drop r).take len,len)
     |false=>none
    |false=>none
   |_=>none
 | .val (.slice _ 0 0)=>some ([],0)
 | .str s=>match Nat.beq es 1 with
   |true=>some (s.map bytesRow,s.length)
   |false=>none
 |_=>none
def AW(C:Cx)(O:u0)(nx:Nat)(e:TypeId)(xs:List (List SV))(m:Nat):wG->Nat->Nat->Nat->Nat->uz
 | .loc i,0,es,n,l=>match u6 i O with
   |some (.deep false es' ds)=>match Nat.beq es (C.T.size e)with
    |true=>match Nat.beq es es' with
     |true=> .need (xs.length=m/\0<n/\0<m/\n<=ds.length/\n+m<=9223372036854775807/\min (2*(n+m)) ((n+m)+(n+m)/4+192)*C.T.bytes e<=281474976710656)
      (.ite (decide (l<n+m)) (.new (.sl (.loc nx) 0 es (n+m) none) (.rows es ((ZA ds).take n++xs))) (.take i (.rows es ((ZA ds).take n++xs)) (.rows es []) (.sl (.loc i) 0 es (n+m) (some l))))
     |false=> .fail
    |false=> .fail
   |_=> .fail
 |_,_,_,_,_=> .fail
def Fj(C:Cx)(O:u0)(nx:Nat)(t:TypeId)(s x:SV):uz:=
 match C.T.sh t with
 | .slice e=>match C.T.zero e with
   | []=> .fail
   |_::_=>match mb C O (C.T.size e) x with
    |none=> .fail
    |some (xs,m)=>match s with
     | .val (.slice none 0 0)=>
       .need (xs.length=m/\m<=9223372036854775807/\m*C.T.bytes e<=140737488355328) (.new (.sl (.loc nx) 0 (C.T.size e) m none) (.rows (C.T.size e) xs))
     | .sl (.loc i) 0 es n none=>
       match u6 i O with
       |some (.rows es' rs)=>match Nat.beq es (C.T.size e)with
        |true=>match Nat.beq es es' with
         |true=> .need (xs.length=m/\n<=rs.length/\n+m<=9223372036854775807/\min (2*(n+m)) ((n+m)+(n+m)/4+192)*C.T.bytes e<=281474976710656) (.fE i (.rows es (rs.take n++xs)) (.sl (.loc nx) 0 es (n+m) none))
         |false=> .fail
        |false=> .fail
       |some (.deep false es' rs)=>match Nat.beq es (C.T.size e)with
        |true=>match Nat.beq es es' with
         |true=> .need (xs.length=m/\n<=rs.length/\n+m<=9223372036854775807/\min (2*(n+m)) ((n+m)+(n+m)/4+192)*C.T.bytes e<=281474976710656) (.fE i (.deep false es (rs.take n++xs.map fun row=>row.map (gq C.T e))) (.sl (.loc nx) 0 es (n+m) none))
         |false=> .fail
        |false=> .fail
       |_=> .fail
     | .sl b r es n (some l)=>
       match mb C O (C.T.size e) (.sl b r es n (some l))with
       |some (ys,_)=> .need (l=r+n/\0<m/\ys.length=n/\xs.length=m/\n+m<=9223372036854775807/\min (2*(n+m)) ((n+m)+(n+m)/4+192)*C.T.bytes e<=281474976710656) (.new (.sl (.loc nx) 0 (C.T.size e) (n+m) none) (.rows (C.T.size e) (ys++xs)))
       |none=>AW C O nx e xs m b r es n l
     |_=> .fail
 |_=> .fail
def AX(C:Cx)(nx:Nat)(t:TypeId)(x:SV):uz:=
 match C.T.sh t with
 | .slice e=>match C.T.zero e with
   | []=> .fail
   |c::cs=>match x with
    | .int _ n=> .need (0<=n/\n<=9223372036854775807/\n.toNat*C.T.bytes e<=140737488355328) (.new (.sl (.loc nx) 0 (C.T.size e) n.toNat none) (.rows (C.T.size e) (List.replicate n.toNat (c::cs))))
    |_=> .fail
 |_=> .fail
def EP(sh:Sh)(y:Operand)(u:SV)(w:Value):Option Bool:=
 match sh,y,w,u with
 | .iface, .const _, .nilIface, .gR _ _=>some false
 | .iface, .const _, .nilIface, .val .nilIface=>some true
 | .ptr _,_, .pointer none, .ptr _ _ _ _=>some false
 | .ptr _,_, .pointer none, .val (.pointer none)=>some true
 | .func,_, .nilFunc, .fn _ _ _=>some false
 | .func,_, .nilFunc, .val .nilFunc=>some true
 |_,_,_,_=>none
section
variable (C:Cx)(lk:Operand->Option SV)(O:u0)(nx:Nat)
def Fk(x:Operand):uz:=match lk x with|some v=> .val v|none=> .fail
def AY(c a b:Operand):uz:=
 match lk c with
 |some (.bool c)=>match lk a,lk b with
  |some (.bool a),some (.bool b)=> .val (.bool (bif c then a else b))
  |some (.bool a),some (.uI [])=> .need (c=true) (.val (.bool a))
  |some (.uI []),some (.bool b)=> .need (c=false) (.val (.bool b))
  |_,_=> .fail
 |_=> .fail
def AZ(e:TypeId):uz:=
 match C.T.zero e with
 | []=> .fail
 |c::cs=>match Yu C.T e (c::cs)with|some v=>newR C.T e nx v|none=> .fail
def QT(e:TypeId)(x:Operand):uz:=match lk x with|some v=>newR C.T e nx v|none=> .fail
def Fl(ps:Array (Nat×Operand)):Option (List (Nat×SV)):=
 qK (fun(p:Nat×Operand)=>match lk p.2 with|some v=>some (p.1,v)|none=>none) ps.toList
def Wz(T:qg)(fs:List (Nat×TypeId))(i:Nat):Option (Nat×Nat):=match nth fs i with|some (off,u)=>some (off,T.size u)|none=>none
def UE(T:qg)(e:TypeId)(i:Nat):Option (Nat×Nat):=some (i*T.size e,T.size e)
def O3(t:TypeId)(ps:Array (Nat×Operand)):uz:=
 match Fl lk ps with
 |none=> .fail
 |some ps=>match C.T.zero t with
  | []=> .fail
  |c::cs=>match C.T.sh t with
   | .struct fs=>match sy (c::cs) (Wz C.T fs) ps with
     |some cs=> .val (.agg cs)
     |none=> .fail
   | .array _ e=>match sy (c::cs) (UE C.T e) ps with
     |some cs=> .val (.agg cs)
     |none=> .fail
   |_=> .fail
def O4(t:TypeId)(len:Nat)(ps:Array (Nat×Operand)):uz:=
 match Fl lk ps with
 |none=> .fail
 |some ps=>match C.T.sh t with
  | .slice e=>match C.T.zero e with
    | []=> .fail
    |c::cs=>match Nat.ble (len*C.T.size e) 16777216 with
     |false=> .fail
     |true=>match sy (fE len (c::cs)) (UE C.T e) ps with
      |none=> .fail
      |some cs=>match Jm (C.T.size e) len cs with
       |some rs=> .new (.sl (.loc nx) 0 (C.T.size e) len none) (.rows (C.T.size e) rs)
       |none=> .fail
  |_=> .fail
def Fm(i es:Nat)(rs:List (List DC))(r c:Nat)(t:TypeId):DC->uz
 | .v sv=>match Yu C.T t [sv]with|some v=> .val v|none=> .fail
 | .uC es' rows=>match C.T.sh t with
   | .slice _=> .take i (.deep false es (rs.modify r fun row=>row.set c (.v (.sl (.loc nx) 0 es' rows.length none)))) (.rows es' rows) (.sl (.loc nx) 0 es' rows.length none)
   |_=> .fail
def O5(t:TypeId)(x:Operand):uz:=match lk x with
 |some p=>match p with
  | .ptr (.loc i) r es c=>match u6 i O with
    |some (.deep false es' rs)=>match Nat.beq es es',Nat.beq (C.T.size t) 1 with
     |true,true=> .findD (WT rs r c) (fun _ d=>Fm C nx i es rs r c t d) .fail
     |_,_=> .fail
    |_=>iY C.T (Yv C O) t p
  |_=>iY C.T (Yv C O) t p
 |none=> .fail
def kf(T:qg)(t:TypeId):Bool:=match T.sh t with| .other=>false|_=>true
def O6(t:TypeId)(x y:Operand):uz:=
 match kf C.T t with
 |false=> .fail
 |true=>match Nat.beq (C.T.size t) 0 with
  |true=> .fail
  |false=>match lk x with
   |some p=>match lk y with
    |some v=>match p with
     | .ptr (.loc i) r es c=>match u6 i O with
       |some (.deep false es' rs)=>match Nat.beq es es',Nat.beq (C.T.size t) 1 with
        |true,true=>match cellsOf v with
         |some [s]=> .findD (WT rs r c) (fun _ _=>Wy C.T t O i (fun d=> .deep false es (rs.modify r fun row=>row.set c d)) s) .fail
         |_=> .fail
        |_,_=> .fail
       |_=>Fc C.T (fun i=>u6 i O) t p v
     |_=>Fc C.T (fun i=>u6 i O) t p v
    |none=> .fail
   |none=> .fail
def O7(x:Operand):uz:=
 match lk x with
 |some (.ptr b r es c)=> .val (.ptr b r es c)
 |_=> .fail
def Fo(ks:List CK)(xs ys:List SV):Bool:=match Zi ks xs ys with|some r=>r|none=>false
def QU(ks:List CK)(op:BinOp)(xs ys:List SV):uz:=
 match op with
 | .eql=> .need ((Zi ks xs ys).isSome=true) (.val (.bool (Fo ks xs ys)))
 | .neq=> .need ((Zi ks xs ys).isSome=true) (.val (.bool (!(Fo ks xs ys))))
 |_=> .fail
def QV(op:BinOp)(t:TypeId)(x y:Operand):uz:=
 match lk x with
 |some (.int k a)=>match lk y with
  |some (.int k' b)=>EM op k k' a b
  |_=> .fail
 |some (.str a)=>match lk y with
  |some (.str b)=>EN op a b
  |_=> .fail
 |some (.bool a)=>match lk y with
  |some (.bool b)=>match C.T.sh t with
   | .bool=>match op with
     | .eql=> .val (.bool (a==b))
     | .neq=> .val (.bool (a !=b))
     |_=> .fail
   |_=> .fail
  |_=> .fail
 |some (.agg xs)=>match lk y with
  |some (.agg ys)=>match C.T.flat t with
   |some ks=>match Zi ks xs ys with
    |some r=>match op with
     | .eql=> .val (.bool r)
     | .neq=> .val (.bool (!r))
     |_=> .fail
    |none=> .fail
   |none=> .fail
  |some (.arr _ rs)=>match C.T.flat t with
   |some ks=>QU ks op xs rs.flatten
   |none=> .fail
  |_=> .fail
 |some (.arr _ rs)=>match lk y with
  |some (.agg ys)=>match C.T.flat t with
   |some ks=>QU ks op rs.flatten ys
   |none=> .fail
  |some (.arr _ qs)=>match C.T.flat t with
   |some ks=>QU ks op rs.flatten qs.flatten
   |none=> .fail
  |_=> .fail
 |some (.sl b r es len lim)=>match lk y with
  |some (.val (.slice none 0 0))=>match C.T.sh t with
   | .slice _=>match op with
     | .eql=> .val (.nb len)
     | .neq=> .need (0<len) (.val (.bool true))
     |_=> .fail
   |_=> .fail
  |_=> .fail
 |some (.val (.slice none 0 0))=>match lk y with
  |some (.val (.slice none 0 0))=>match C.T.sh t with
   | .slice _=>match op with
     | .eql=> .val (.bool true)
     | .neq=> .val (.bool false)
     |_=> .fail
   |_=> .fail
  |_=> .fail
 |some u=>match lk y with
  |some (.val w)=>match EP (C.T.sh t) y u w with
   |some r=>match op with
    | .eql=> .val (.bool r)
    | .neq=> .val (.bool (!r))
    |_=> .fail
   |none=> .fail
  |_=> .fail
 |none=> .fail
def O8(op:UnOp)(x:Operand):uz:=
 match op with
 | .not=>match lk x with
   |some (.bool b)=> .val (.bool (!b))
   |_=> .fail
 | .neg=>match lk x with
   |some (.int k n)=> .val (.int k (k.wrap (0-n)))
   |_=> .fail
 | .xor=>match lk x with
   |some (.int k n)=> .val (.int k (oS k (bif k.signed then-1 else k.max) n))
   |_=> .fail
 |_=> .fail
def QW(T:qg)(t:TypeId):Option TypeId:=
 match T.sh t with
 | .slice e=>match T.sh e with
   | .int .u8=>some e
   |_=>none
 |_=>none
def O9(s d:TypeId)(x:Operand):uz:=
 match kf C.T s with
 |false=> .fail
 |true=>match lk x with
  |some (.int _ n)=>match C.T.sh d with
   | .int k=> .val (.int k (k.wrap n))
   | .str=> .val (.str (Utf8.encode n).data.toList)
   |_=> .fail
  |some (.str s')=>match C.T.sh d with
   | .str=> .val (.str s')
   |_=>match QW C.T d with
    |some e=>match Nat.beq (C.T.size e) 1 with
     |true=>match C.T.sh s with
      | .str=> .need (s'.length<=9223372036854775807) (.new (.sl (.loc nx) 0 1 s'.length none) (.rows 1 (s'.map bytesRow)))
      |_=> .fail
     |false=> .fail
    |none=> .fail
  |some (.sl b r es len lim)=>match C.T.sh d with
   | .str=>match QW C.T s with
     |some _=>match mb C O 1 (.sl b r es len lim)with
      |some (xs,m)=> .need (xs.length=m/\∃l:List UInt8,xs=l.map bytesRow) (.val (.str (xs.map QS)))
      |none=> .fail
     |none=> .fail
   |_=> .fail
  |some (.val (.slice none 0 0))=>match C.T.sh d with
   | .str=>match QW C.T s with
     |some _=> .val (.str [])
     |none=> .fail
   |_=> .fail
  |_=> .fail
def Oa(t:TypeId)(x:Operand):uz:=
 match C.T.sh t with
 | .iface=> .fail
 | .other=> .fail
 |_=>match lk x with
  |some v=> .val (.gR t v)
  |none=> .fail
def Ob(f:Fn)(a b:Array Operand):uz:=
 match qK lk a.toList with
 |some a=>match qK lk b.toList with
  |some b=> .val (.fn f a b)
  |none=> .fail
 |none=> .fail
def Od(t:TypeId)(l c:Operand):uz:=
 match C.T.sh t with
 | .slice e=>match C.T.zero e with
   | []=> .fail
   |z::zs=>match lk l with
    |some (.int _ l)=>match lk c with
     |some (.int _ c)=>
      .need (0<=l/\l<=c/\c<=9223372036854775807/\C.T.bytes e*c<=281474976710656)
       (.new (.sl (.loc nx) 0 (C.T.size e) l.toNat none) (.rows (C.T.size e) (List.replicate c.toNat (z::zs))))
     |_=> .fail
    |_=> .fail
 |_=> .fail
def Oe(t:TypeId)(x:Operand)(lo hi mx:Option Operand):uz:=
 match lk x with
 |some (.str s)=>match C.T.sh t with
  | .str=>match mx with
    |none=>AQ s (lo.map lk) (hi.map lk)
    |some _=> .fail
  |_=> .fail
 |some (.sl b r es len lim)=>match C.T.sh t with
  | .slice e=>match Nat.beq es (C.T.size e)with
    |true=>match kf C.T e with
     |true=>AR O b r es len lim (lo.map lk) (hi.map lk) (mx.map lk)
     |false=> .fail
    |false=> .fail
  |_=> .fail
 |some (.val (.slice none 0 0))=>match C.T.sh t with
  | .slice e=>match kf C.T e with
    |true=>AV (lo.map lk) (hi.map lk) (mx.map lk)
    |false=> .fail
  |_=> .fail
 |_=> .fail
def Og(s:TypeId)(x:Operand)(f:Nat):uz:=
 match lk x with
 |some (.ptr b r es c)=>match Ff C.T s f with
  |some (off,u)=>match Nat.beq (C.T.size u) 0 with
   |true=> .fail
   |false=> .val (.ptr b r es (c+off))
  |none=> .fail
 |_=> .fail
def Oh(t:TypeId)(x:Operand)(f:Nat):uz:=
 match lk x with
 |some (.agg cs)=>match Ff C.T t f with
  |some (off,u)=>Wv C.T u off cs
  |none=> .fail
 |_=> .fail
def Oi(t:TypeId)(x i:Operand):uz:=
 match lk i with
 |some (.int _ i)=>match C.T.sh t with
  | .array n e=>match lk x with
    |some (.ptr b r es c)=>match Nat.beq es (C.T.size e)with
     |true=> .need (r=0/\c=0/\0<=i/\i<n) (.val (.ptr b i.toNat es 0))
     |false=>match c with
      |0=> .need (r=0/\(0:Nat)=0/\0<=i/\i<n) (.val (.ptr b i.toNat (C.T.size e) 0))
      |c'+1=> .need (0<=i/\i<n) (.val (.ptr b r es (c'+1+i.toNat*C.T.size e)))
    |_=> .fail
  | .slice e=>match lk x with
    |some (.sl b r es len _)=>match Nat.beq es (C.T.size e),kf C.T e with
     |true,true=> .need (0<=i/\i<len) (.val (.ptr b (r+i.toNat) es 0))
     |_,_=> .fail
    |_=> .fail
  |_=> .fail
 |_=> .fail
def Oj(t:TypeId)(x i:Operand):uz:=
 match lk i with
 |some (.int _ i)=>match C.T.sh t with
  | .str=>match lk x with
    |some (.str s)=> .need (0<=i/\i<s.length) (.val (.int .u8 (Zm s i)))
    |_=> .fail
  | .array n e=>match lk x with
    |some (.agg cs)=>match Jm (C.T.size e) n cs with
     |some rs=> .need (0<=i/\i<n) (.get rs i.toNat fun row=>Wv C.T e 0 row)
     |none=> .fail
    |some (.arr es rs)=>match Nat.beq es (C.T.size e)with
     |true=> .need (0<=i/\i<n/\rs.length=n) (.get rs i.toNat fun row=>Wv C.T e 0 row)
     |false=> .fail
    |_=> .fail
  |_=> .fail
 |_=> .fail
def Ol(t:TypeId)(x:Operand):uz:=
 match C.T.sh t with
 | .str=>match lk x with
   |some (.str s)=> .new (.ptr (.loc nx) 0 0 0) (.wI s 0)
   |_=> .fail
 |_=> .fail
def Om(x:Operand)(isStr:Bool):uz:=
 match isStr with
 |true=>match lk x with
  |some (.ptr (.loc i) r es c)=>match u6 i O with
   |some (.wI s pos)=>match Nat.beq (r*es+c) 0 with
    |true=> .ite (decide (pos<s.length))
     (.jK i (.wI s (pos+(Utf8.decode ⟨s.toArray⟩ pos).2)) (.uI [.bool true, .int .i64 (pos:Int), .int .i32 ((Utf8.decode ⟨s.toArray⟩ pos).1:Int)]))
     (.val (.uI [.bool false]))
    |false=> .fail
   |_=> .fail
  |_=> .fail
 |false=> .fail
def On(x:Operand)(i:Nat):uz:=
 match lk x with
 |some (.uI vs)=>match nth vs i with
  |some v=> .val v
  |none=> .fail
 |_=> .fail
def Fp(T:qg)(t:TypeId):uz:=
 match T.zero t with
 | []=> .fail
 |c::cs=>match Yu T t (c::cs)with
  |some z=> .val (.uI [z, .bool false])
  |none=> .fail
def Oo(x:Operand)(t:TypeId)(ok:Bool):uz:=
 match C.T.sh t with
 | .iface=> .fail
 | .other=> .fail
 |_=>match lk x with
  |some (.gR u v)=>match Nat.beq u t with
   |true=>match ok with
    |true=> .val (.uI [v, .bool true])
    |false=> .val v
   |false=>match ok with
    |true=>Fp C.T t
    |false=> .fail
  |some (.val .nilIface)=>match ok with
   |true=>Fp C.T t
   |false=> .fail
  |_=> .fail
def lX(T:qg)(t:TypeId)(f:SV->uz):uz:=
 match T.zero t with
 | []=> .fail
 |c::cs=>match Yu T t (c::cs)with
  |some z=>f z
  |none=> .fail
def lY(ok:Bool)(v:SV)(b:Bool):SV:=match ok with|true=> .uI [v, .bool b]|false=>v
def Oq(t:TypeId)(r:Option Operand):uz:=
 match r with
 |none=> .new (.mp (.loc nx)) (.mp [])
 |some x=>match C.T.sh t with
  | .map _ _=>match lk x with
    |some (.int _ _)=> .new (.mp (.loc nx)) (.mp [])
    |_=> .fail
  |_=> .fail
def Ot(ok:Bool)(i es:Nat)(rs:List (List DC))(j:Nat):DC->uz
 | .v s=> .val (lY ok s true)
 | .uC es' rows=> .take i (.deep true es (rs.modify j (jU (.v (.sl (.loc nx) 0 es' rows.length none))))) (.rows es' rows) (lY ok (.sl (.loc nx) 0 es' rows.length none) true)
def ER(ks:Bool×List CK)(et:TypeId)(key:SV)(ok:Bool):wG->uz
 | .loc i=>match u6 i O with
   |some (.deep true es rs)=> .need (Ji ks key=true/\Jn ks (ZA rs)) (.findD (findD ks key 0 rs) (fun j d=>Ot nx ok i es rs j d) (lX C.T et fun z=> .val (lY ok z false)))
   |_=> .fail
 | .uM _=> .fail
def Ou(t:TypeId)(x i:Operand)(ok:Bool):uz:=
 match C.T.sh t with
 | .map kt et=>match C.T.key kt with
   |some ks=>match Fi lk i with
    |some key=>match lk x with
     |some (.mp b)=>match Yv C O b with
      |some (.mp rs)=> .need (Ji ks key=true/\Jn ks rs) (.find (X1 ks key 0 rs) (fun _ v=> .val (lY ok v true)) (lX C.T et fun z=> .val (lY ok z false)))
      |_=>ER C O nx ks et key ok b
     |some (.val (.map none))=> .need (Ji ks key=true) (lX C.T et fun z=> .val (lY ok z false))
     |_=> .fail
    |none=> .fail
   |none=> .fail
 |_=> .fail
def ES(t:TypeId)(m k v:Operand):uz:=
 match C.T.sh t with
 | .map kt et=>match C.T.key kt with
   |some ks=>match Fi lk k with
    |some key=>match lk v with
     |some v=>match lk m with
      |some (.mp (.loc i))=>match u6 i O with
       |some (.mp rs)=> .need (Ji ks key=true/\Jn ks rs) (.jK i (.mp (jk ks key v rs)) (.uI []))
       |some (.deep true es rs)=> .need (Ji ks key=true/\Jn ks (ZA rs)) (Wy C.T et O i (fun d=> .deep true es (jl ks key d rs)) v)
       |_=> .fail
      |_=> .fail
     |none=> .fail
    |none=> .fail
   |none=> .fail
 |_=> .fail
def ET(i es:Nat)(rs:List (List DC))(j:Nat):DC->uz
 | .v s=> .val (.uI [s, .int .i64 (j:Int)])
 | .uC es' rows=> .take i (.deep true es (rs.modify j (jU (.v (.sl (.loc nx) 0 es' rows.length none))))) (.rows es' rows) (.uI [.sl (.loc nx) 0 es' rows.length none, .int .i64 (j:Int)])
def Ov(t:TypeId)(m k:Operand):uz:=
 match C.T.sh t with
 | .map kt et=>match C.T.key kt with
   |some ks=>match lk k with
    |some key=>match lk m with
     |some (.mp (.loc i))=>match u6 i O with
      |some (.mp rs)=> .need (Ji ks key=true/\Jn ks rs) (.find (X1 ks key 0 rs) (fun j v=> .val (.uI [v, .int .i64 (j:Int)]))
        (lX C.T et fun z=> .jK i (.mp (rs++ [[key,z]])) (.uI [z, .int .i64 (rs.length:Int)])))
      |some (.deep true es rs)=> .need (Ji ks key=true/\Jn ks (ZA rs)) (.findD (findD ks key 0 rs) (fun j d=>ET nx i es rs j d)
        (lX C.T et fun z=> .jK i (.deep true es (rs++ [[.v key, .v z]])) (.uI [z, .int .i64 (rs.length:Int)])))
      |_=> .fail
     |_=> .fail
    |none=> .fail
   |none=> .fail
 |_=> .fail
def Ow(t:TypeId)(m s v:Operand):uz:=
 match lk s with
 |some (.int _ n)=>match lk v with
  |some v=>match lk m with
   |some (.mp (.loc i))=>match u6 i O with
    |some (.mp rs)=> .need (0<=n/\n< (rs.length:Int)) (.jK i (.mp (rs.modify n.toNat (fM v))) (.uI []))
    |some (.deep true es rs)=>match C.T.sh t with
     | .map _ et=> .need (0<=n/\n< (rs.length:Int)) (Wy C.T et O i (fun d=> .deep true es (rs.modify n.toNat (jU d))) v)
     |_=> .fail
    |_=> .fail
   |_=> .fail
  |none=> .fail
 |_=> .fail
def QX(args:List Operand)(ts:List TypeId):uz:=
 match args with
 | [x]=>match ts with
   | [t]=>match lk x with
     |some (.str s)=>match C.T.sh t with| .str=> .val (.int .i64 (s.length:Int))|_=> .fail
     |some (.sl _ _ _ len _)=>match C.T.sh t with| .slice _=> .val (.int .i64 (len:Int))|_=> .fail
     |some (.val (.slice _ n _))=>match C.T.sh t with| .slice _=> .val (.int .i64 (n:Int))|_=> .fail
     |some (.mp b)=>match C.T.sh t with
      | .map _ _=>match Yv C O b with
        |some (.mp rs)=> .val (.int .i64 (rs.length:Int))
        |_=> .fail
      |_=> .fail
     |_=> .fail
   |_=> .fail
 |_=> .fail
def QY(args:List Operand)(ts:List TypeId):uz:=
 match args with
 | [x]=>match ts with
   | [t]=>match lk x with
     |some (.val (.slice none 0 0))=>match C.T.sh t with| .slice _=> .val (.int .i64 0)|_=> .fail
     |_=> .fail
   |_=> .fail
 |_=> .fail
def Oy(args:List Operand)(ts:List TypeId):uz:=
 match args with
 | [s,x]=>match ts with
   | [t,u]=>match lk s with
     |some s=>match lk x with
      |some x=>match C.T.sh u with
       | .slice _=>Fj C O nx t s x
       | .str=>Fj C O nx t s x
       | .int _=>match s with
         | .val (.slice none 0 0)=>AX C nx t x
         |_=> .fail
       |_=> .fail
      |none=> .fail
     |none=> .fail
   |_=> .fail
 |_=> .fail
def QZ(args:List Operand):uz:=
 match args with
 | [x,y]=>match lk x with
   |some (.int k a)=>match lk y with
    |some (.int _ b)=> .val (.int k (if b<a then b else a))
    |_=> .fail
   |_=> .fail
 |_=> .fail
def K0(args:List Operand):uz:=
 match args with
 | [x,y]=>match lk x with
   |some (.int k a)=>match lk y with
    |some (.int _ b)=> .val (.int k (if a<b then b else a))
    |_=> .fail
   |_=> .fail
 |_=> .fail
def Oz(args:List Operand)(ts:List TypeId):uz:=
 match args with
 | [d,x]=>match ts with
   | [t,_]=>match C.T.sh t with
     | .slice e=>match kf C.T e with
       |false=> .fail
       |true=>match lk d with
        |some (.sl (.loc i) r es n _)=>match lk x with
         |none=> .fail
         |some x=>match mb C O (C.T.size e) x with
          |none=> .fail
          |some (xs,m)=>match u6 i O with
           |some (.rows es' rs)=>match Nat.beq es (C.T.size e)with
            |true=>match Nat.beq es es' with
             |true=> .need (xs.length=m/\m<=n/\r+n<=rs.length) (.jK i (.rows es (rs.take r++xs++rs.drop (r+m))) (.int .i64 (m:Int)))
             |false=> .fail
            |false=> .fail
           |_=> .fail
        |_=> .fail
     |_=> .fail
   |_=> .fail
 |_=> .fail
def OA(args:List Operand)(ts:List TypeId):uz:=
 match args with
 | [d]=>match ts with
   | [t]=>match C.T.sh t with
     | .slice e=>match C.T.zero e with
       | []=> .fail
       |z::zs=>match lk d with
        |some (.sl (.loc i) r es n _)=>match u6 i O with
         |some (.rows es' rs)=>match Nat.beq es (C.T.size e)with
          |true=>match Nat.beq es es' with
           |true=> .need (r+n<=rs.length) (.jK i (.rows es (rs.take r++List.replicate n (z::zs)++rs.drop (r+n))) (.uI []))
           |false=> .fail
          |false=> .fail
         |_=> .fail
        |_=> .fail
     |_=> .fail
   |_=> .fail
 |_=> .fail
def JV(b:Builtin)(args:List Operand)(ts:List TypeId):uz:=
 match b with
 | .len=>QX C lk O args ts
 | .append=>Oy C lk O nx args ts
 | .cap=>QY C lk args ts
 | .min=>QZ lk args
 | .max=>K0 lk args
 | .copy=>Oz C lk O args ts
 | .clear=>OA C lk O args ts
 |_=> .fail
def wj:Op->uz
 | .move x=>Fk lk x
 | .assign x=>Fk lk x
 | .pick c a b=>AY lk c a b
 | .alloc e=>AZ C nx e
 | .box e x=>QT C lk nx e x
 | .build t ps=>O3 C lk t ps
 | .buildSlice t len ps=>O4 C lk nx t len ps
 | .load t x=>O5 C lk O nx t x
 | .store t x y=>O6 C lk O t x y
 | .nilCheck x=>O7 lk x
 | .binOp op t x y _=>QV C lk op t x y
 | .unOp op _ x=>O8 lk op x
 | .convert s d x=>O9 C lk O nx s d x
 | .makeInterface t x=>Oa C lk t x
 | .makeFunc f a b=>Ob lk f a b
 | .makeSlice t l c=>Od C lk nx t l c
 | .slice t x lo hi mx=>Oe C lk O t x lo hi mx
 | .fieldAddr s x f=>Og C lk s x f
 | .field t x f=>Oh C lk t x f
 | .indexAddr t x i=>Oi C lk t x i
 | .index t x i=>Oj C lk t x i
 | .makeMap t r=>Oq C lk nx t r
 | .lookup t x i ok=>Ou C lk O nx t x i ok
 | .mapUpdate t m k v=>ES C lk O t m k v
 | .insert t m k v=>ES C lk O t m k v
 | .mapEntry t m k=>Ov C lk O nx t m k
 | .entryStore t m s v=>Ow C lk O t m s v
 | .range t x=>Ol C lk nx t x
 | .next x isStr=>Om lk O x isStr
 | .extract x i=>On lk x i
 | .typeAssert x _ t ok=>Oo C lk x t ok
 | .call c=>match c.callee with
   | .builtin b=>JV C lk O nx b c.args.toList c.argTypes.toList
   |_=> .fail
 |_=> .fail
end
structure qJ where
 g:Nat
 base:Nat
 cap:Nat
abbrev Env:=List (Option qJ)
def Env.get(Y:Env):wG->Option (Option qJ)
 | .uM g=>some (some ⟨g,0,0⟩)
 | .loc i=>Y[i]?
mutual
def Den(Y:Env):SV->Value->Prop
 | .bool b,v=>v= .bool b
 | .int k n,v=>v= .int k n
 | .str s,v=>v= .string ⟨s.toArray⟩
 | .ptr b r es c,v=> ∃e,Y.get b=some (some e)/\v= .pointer (some ⟨e.g,e.base+(r*es+c),none⟩)
 | .sl b r es len lim,v=>
   (Y.get b=some none/\v= .slice none 0 0/\len=0)\/
   (∃e o,Y.get b=some (some e)/\v= .slice (some ⟨e.g,o,none⟩) len (lim.getD e.cap-r)/\r+len<=lim.getD e.cap/\lim.getD e.cap<=e.cap/\(r<lim.getD e.cap\/r=0->o=e.base+r*es))
 | .val u,v=>v=u/\u.oneCell'=true
 | .agg cs,v=> ∃vs,v= .agg ⟨vs⟩/\vX Y cs vs/\∀u∈vs,u.oneCell'=true
 | .arr es rs,v=> ∃vs,v= .agg ⟨vs⟩/\uk Y es rs vs/\∀u∈vs,u.oneCell'=true
 | .uI ts,v=> ∃vs,v= .tuple ⟨vs⟩/\vX Y ts vs
 | .gR t x,v=> ∃u,v= .iface t u/\Den Y x u
 | .fn f a b,v=> ∃us vs,v= .func f ⟨us⟩ ⟨vs⟩/\vX Y a us/\vX Y b vs
 | .mp b,v=> ∃e,Y.get b=some (some e)/\v= .map (some e.g)
 | .yf b,v=> ∃e,Y.get b=some (some e)/\v= .func (.yield e.g) #[] #[]
 | .jQ _,_=>True
 | .nb n,v=> ∃b,v= .bool b/\(b=true->n=0)
 | .any,_=>True
def vX(Y:Env):List SV->List Value->Prop
 | [],vs=>vs=[]
 |c::cs,vs=> ∃u us,vs=u::us/\Den Y c u/\vX Y cs us
def uk(Y:Env)(es:Nat):List (List SV)->List Value->Prop
 | [],vs=>vs=[]
 |r::rs,vs=> ∃us ws,vs=us++ws/\us.length=es/\vX Y r us/\uk Y es rs ws
end
def um(Y:Env)(arr:Array Value)(o:Nat)(row:List SV):Prop:=
 ∀j sv,row[j]?=some sv->∃v,arr[o+j]?=some v/\v.oneCell'=true/\Den Y sv v
def qL(Y:Env)(tmps:Array Value)(fr:Fr):Prop:=∀t sv,u6 t fr=some sv->Den Y sv (tmps.getD t undef)
def aY.state:aY->LoopState
 | .ready=> .ready
 | .busy=> .busy
 | .left _=> .done
def I3:Option Nat->Code
 |none=> .ret
 |some id=> .exit id
def aY.jump:aY->Option Code
 | .left j=>some (I3 j)
 |_=>none
def jy(Y:Env)(r:Loop)(st:aY)(li:mH)(fr:Fr):Prop:=
 r.state=st.state/\r.pending=st.jump/\r.params.toList=li.ps/\r.assign=li.eD/\r.body=li.body/\r.tmps.size=li.N/\qL Y r.tmps fr
def JW(n:Nat)(fz:Nat×Nat):Prop:=∀o,o<n->¬(fz.1<=o/\o<fz.2)
def uQ(Y:Env)(w:World)(own:Bool)(b:wG)(es:Nat)(rs:List (List SV)):Prop:=
 (Y.get b=some none/\rs=[])\/
 (∃e arr T fz,Y.get b=some (some e)/\w.heap[e.g]?=some (.cells arr T fz)/\(own=true->JW arr.size fz/\arr.size=e.cap*es/\rs.length<=e.cap/\e.base=0)/\
   ∀i row,rs[i]?=some row->row.length=es/\um Y arr (e.base+i*es) row)
def gu(Y:Env)(w:World)(b:wG)(rs:List (List SV)):Prop:=
 ∃e es,Y.get b=some (some e)/\e.base=0/\w.heap[e.g]?=some (.map es es.size)/\es.size=rs.length/\∀i row,rs[i]?=some row->∃en:MapEntry,es[i]?=some en/\en.born=i/\vX Y row [en.key,en.val]
def ZY(o:Obj)(es i j:Nat):Option Value:=match o with
 | .cells arr _ _=>arr[i*es+j]?
 | .map uN _=>(uN[i]?).map fun e=>match j with|0=>e.key|_=>e.val
 |_=>none
def Yy(rs:List (List DC))(i j:Nat):Option (Nat×List (List SV)):=match rs[i]? with
 |some row=>match row[j]? with
  |some (.uC es rows)=>some (es,rows)
  |_=>none
 |none=>none
def wD(Y:Env)(w:World)(v:Value)(es:Nat)(rows:List (List SV)):Prop:=
 (v= .slice none 0 0/\rows=[])\/
 (∃g cap arr T fz,v= .slice (some ⟨g,0,none⟩) rows.length cap/\w.heap[g]?=some (.cells arr T fz)/\JW arr.size fz/\arr.size=cap*es/\rows.length<=cap/\
   ∀i row,rows[i]?=some row->row.length=es/\um Y arr (0+i*es) row)
structure qm(Y:Env)(w:World)(g:Nat)(o:Obj)(es:Nat)(rs:List (List DC)):Prop where
 sat:∀i j es' rows,Yy rs i j=some (es',rows)->∃v,ZY o es i j=some v/\wD Y w v es' rows/\v.ownBlock≠some g
 ne:∀i j i' j' x x' v v' k,Yy rs i j=some x->Yy rs i' j'=some x'->ZY o es i j=some v->ZY o es i' j'=some v'->v.ownBlock=some k->v'.ownBlock=some k->i=i'/\j=j'
def uS(Y:Env)(w:World)(b:wG)(es:Nat)(rs:List (List DC)):Prop:=∀e,Y.get b=some (some e)->e.base=0/\∀o,w.heap[e.g]?=some o->qm Y w e.g o es rs
def vV(Y:Env)(w:World)(own:Bool)(b:wG):Hp->Prop
 | .box row=> ∃e arr T fz,Y.get b=some (some e)/\w.heap[e.g]?=some (.cells arr T fz)/\(own=true->JW arr.size fz)/\um Y arr e.base row
 | .rows es rs=>
   (Y.get b=some none/\rs=[])\/
   (∃e arr T fz,Y.get b=some (some e)/\w.heap[e.g]?=some (.cells arr T fz)/\(own=true->JW arr.size fz/\arr.size=e.cap*es/\rs.length<=e.cap/\e.base=0)/\
     ∀i row,rs[i]?=some row->row.length=es/\um Y arr (e.base+i*es) row)
 | .cI vs=> ∃e,Y.get b=some (some e)/\e.base=0/\∃T fz,w.heap[e.g]?=some (.cells vs.toArray T fz)
 | .wI s pos=> ∃e,Y.get b=some (some e)/\e.base=0/\w.heap[e.g]?=some (.stringIter ⟨s.toArray⟩ pos)
 | .mp rs=> ∃e es,Y.get b=some (some e)/\e.base=0/\w.heap[e.g]?=some (.map es es.size)/\es.size=rs.length/\∀i row,rs[i]?=some row->∃en:MapEntry,es[i]?=some en/\en.born=i/\vX Y row [en.key,en.val]
 | .gJ f=> ∃e,Y.get b=some (some e)/\e.base=0/\w.heap[e.g]?=some (.deferred (some []))/\(∀n∈f,w.heap[n]?=some (.deferred (some [])))/\(e.g::f).Nodup
 | .lp st li fr=> ∃e r,Y.get b=some (some e)/\e.base=0/\w.heap[e.g]?=some (.loop r)/\jy Y r st li fr
 | .kH T t l=> ∃e,Y.get b=some (some e)/\e.base=0/\Lib.IsBuilderF T t 0 e.g (Lib.byteCells l) w
 | .deep true es rs=>(gu Y w b (ZA rs)/\es=2)/\uS Y w b es rs
 | .deep false es rs=>uQ Y w own b es (ZA rs)/\uS Y w b es rs
def uC(w:World)(g:Nat):Hp->Nat->Prop
 | .kH _ _ _,k=> ∃arr T fz v,w.heap[g]?=some (.cells arr T fz)/\arr[1]?=some v/\v.ownBlock=some k
 | .deep _ es rs,k=> ∃o i j x v,w.heap[g]?=some o/\Yy rs i j=some x/\ZY o es i j=some v/\v.ownBlock=some k
 | .gJ f,k=>k∈f
 |_,_=>False
def u5(Y:Env)(w:World)(b:wG)(h:Hp)(k:Nat):Prop:=∃e,Y.get b=some (some e)/\(e.g=k\/uC w e.g h k)
structure jw(w0 w:World)(F:Nat->Prop):Prop where
 os:w.os=w0.os
 tape:w.tape=w0.tape
 output:w.output=w0.output
 drawn:w0.drawn<=w.drawn
 size:w0.heap.size<=w.heap.size
 block:∀k,k<w0.heap.size->¬F k->w.heap[k]?=w0.heap[k]?
structure Mx where
 P:Program
 C:Cx
 w0:World
 F:Nat->Prop
 η0:Env
 px:Option (Fr×(SV->u0->Nat->Prop)):=none
def Mx.uq(M:Mx):Fence:={Fence.wide with round:=M.C.ro.map (·.1)}
theorem Mx.all(M:Mx)(f:FuncId):M.uq.fn f:=trivial
theorem Mx.room(M:Mx)(n:Nat):M.uq.room n:=fun _ h=>by cases h
def Fq(M:Mx)(Y:Env)(w:World)(O:u0):Prop:=
 (∀i h,u6 i O=some h->vV Y w true (.loc i) h/\∀k,u5 Y w (.loc i) h k->(M.F k\/M.w0.heap.size<=k))/\
 (∀i j h h' k,u6 i O=some h->u6 j O=some h'->i≠j->u5 Y w (.loc i) h k->¬u5 Y w (.loc j) h' k)
def bM(C:Cx):wG->Option Hp
 | .loc i=>kI (.loc i) C.S
 | .uM g=>u6 g C.T.qS
def mc(M:Mx):Prop:=
 ∀b h,bM M.C b=some h->vV M.η0 M.w0 false b h/\∀k,u5 M.η0 M.w0 b h k->k<M.w0.heap.size/\¬M.F k
structure vU(M:Mx)(Y:Env)(w:World)(O:u0)(nx:Nat):Prop where
 pre:M.η0<+:Y
 len:Y.length=nx
 own:Fq M Y w O
 fr:jw M.w0 w M.F
 wH:mc M
def jm(Y:Env)(a:Act)(fr:Fr):Prop:=∀t sv,u6 t fr=some sv->Den Y sv (a.tmps.getD t undef)
def w5(a:Act)(path:List (Nat×Bool)):Prop:=∀p∈path,a.tmps.getD p.1 undef= .bool p.2
def cS(Y:Env)(a:Act)(gs:Gs):Prop:=
 ∀t path sv,u6 t gs=some (path,sv)->(w5 a path->Den Y sv (a.tmps.getD t undef))/\(¬w5 a path->a.tmps.getD t undef=undef)
abbrev DS:Nat:=1000000000
def sC(f:List Nat):List Deferred:=f.map fun n=>{target:= .collected n,args:= #[]}
def oU(f:List Nat):Value:= .tuple (f.map fun(n:Nat)=>Value.int .i64 (n:Int)).toArray
def jh(Y:Env):List SV->List Deferred->Prop
 | [],ds=>ds=[]
 | .ptr b _ _ _::l,ds=> ∃e r,Y.get b=some (some e)/\ds={target:= .collected e.g,args:= #[]}::r/\jh Y l r
 | .val v::l,ds=> ∃f r,v=oU f/\ds=sC f++r/\jh Y l r
 | .fn f a b::l,ds=> ∃us vs r,vX Y a us/\vX Y b vs/\ds={target:= .fn f ⟨vs⟩,args:=⟨us⟩}::r/\jh Y l r
 |_::_,_=>False
def qU(Y:Env)(ds:List Deferred):Option SV->Prop
 |some (.jQ l)=>jh Y l ds
 |_=>ds=[]
structure u7(M:Mx)(Y:Env)(fr:Fr)(O:u0)(nx:Nat)(a:Act)(w:World):Prop where
 heap:vU M Y w O nx
 size:a.tmps.size=M.C.N
 fN:M.C.N<=DS
 defers:qU Y a.defers (u6 DS fr)
 ro:∀l j,M.C.ro=some (l,j)->∃e,Y[j]?=some (some e)/\e.g=l
 frame:jm Y a fr
inductive Ex where
 |normal|exit (id:Nat)|ret
abbrev Post:=Ex->Fr->u0->Nat->Prop
def Fs(M:Mx)(ch:List PanicEntry)(a:Act)(w:World):Prop:=
 ∃kp X,M.px=some (kp,X)/\∃Y O nx v sv,ch=[{v,recovered:=false}]/\u7 M Y kp O nx a w/\Den Y sv v/\X sv O nx
def iZ(M:Mx)(Q:Post):Exit->Act->World->Prop
 | .normal,a,w=> ∃Y fr O nx,u7 M Y fr O nx a w/\Q .normal fr O nx
 | .exit id,a,w=> ∃Y fr O nx,u7 M Y fr O nx a w/\Q (.exit id) fr O nx
 | .ret,a,w=> ∃Y fr O nx,u7 M Y fr O nx a w/\Q .ret fr O nx
 | .panic ch,a,w=>Fs M ch a w
 |_,_,_=>False
def Walk(M:Mx)(c:Code)(fr:Fr)(O:u0)(nx:Nat)(Q:Post):Prop:=
 ∀Y a w,u7 M Y fr O nx a w->c.wpIn M.uq 0 M.P (iZ M Q) a w
def j7(P:Program)(f:FuncId)(args:Array Value)(w:World)(R:Value->World->Prop):Prop:=
 (∃g,(callFunc f args).run P w= .ok (.enter g args) w/\Calls P g args w fun e w'=> ∃v,e= .returned v/\R v w')\/
 (∃v w',(callFunc f args).run P w= .ok (.value v) w'/\R v w')
structure CALL(M:Mx)(f:FuncId)(args:List SV)(O:u0)(nx:Nat)(K:SV->u0->Nat->Prop):Prop where
 out:∀Y w vs,vU M Y w O nx->vX Y args vs->
  j7 M.P f ⟨vs⟩ w fun v w'=> ∃r O' vZ η',Y<+:η'/\vU M η' w' O' vZ/\Den η' r v/\K r O' vZ
def jA(P:Program)(f:FuncId)(args:Array Value)(w:World)(R RP:Value->World->Prop):Prop:=
 (∃g,(callFunc f args).run P w= .ok (.enter g args) w/\Calls P g args w fun e w'=>(∃v,e= .returned v/\R v w')\/∃v,e= .panicked [{v,recovered:=false}]/\RP v w')\/
 (∃v w',(callFunc f args).run P w= .ok (.value v) w'/\R v w')
structure qn(M:Mx)(f:FuncId)(args:List SV)(O:u0)(nx:Nat)(KP K:SV->u0->Nat->Prop):Prop where
 out:∀Y w vs,vU M Y w O nx->vX Y args vs->
  jA M.P f ⟨vs⟩ w (fun v w'=> ∃r O' vZ η',Y<+:η'/\vU M η' w' O' vZ/\Den η' r v/\K r O' vZ) fun v w'=> ∃r O' vZ η',Y<+:η'/\vU M η' w' O' vZ/\Den η' r v/\KP r O' vZ
def EU:Fr->Fr->Prop
 | [],_=>True
 |(t,v)::r,fr=>u6 t fr=some v/\EU r fr
def EV(kp fr:Fr):Prop:=u6 1000000000 fr=u6 1000000000 kp/\EU kp fr
structure ua(M:Mx)(body:Code)(fr:Fr)(O:u0)(nx:Nat)(Q:Post):Prop where
 out:∀Y a w,u7 M Y fr O nx a w->∀(b:Frame) (k:List Item) (cs:List Frame),b.roundOf=M.uq.round->∃e a' w',iZ M Q e a' w'/\ArrivesIn (Machine.fenced M.P M.uq) M.P (lone (b.atR a (.code body:: .inLoop body::k)) cs w) b k cs e a' w'
structure fO(M:Mx)(j:Nat)(args:List SV)(O:u0)(nx:Nat)(K:SV->u0->Nat->Prop):Prop where
 out:∀Y w vs e,vU M Y w O nx->vX Y args vs->Y[j]?=some (some e)->∃fn tmps eD body,(Instr.yield e.g ⟨vs⟩).run M.P w= .ok (.round e.g fn tmps eD body) w/\
  RoundIn Fence.wide 0 M.P e.g fn tmps eD body w fun en w'=> ∃v,en= .returned v/\∃r O' vZ η',Y<+:η'/\vU M η' w' O' vZ/\Den η' r v/\K r O' vZ
structure kg(M:Mx)(f:Operand)(ps:Array Tmp)(eD body:Code)(fr:Fr)(O:u0)(nx:Nat)(Q:Post):Prop where
 out:Walk M (.rangeFunc f ps eD body) fr O nx Q
structure uK(M:Mx)(id:Nat)(ops:Array Oper)(fr:Fr)(O:u0)(nx:Nat)(Q:Post):Prop where
 out:Walk M (.region id ops true) fr O nx Q
def me(i:Nat)(h:Hp):u0->(u0->Prop)->Prop
 | [],K=>K []
 |(j,g)::r,K=>match Nat.beq i j with|true=>K ((j,h)::r)|false=>me i h r fun r=>K ((j,g)::r)
def oV(i:Nat):u0->(u0->Prop)->Prop
 | [],K=>K []
 |(j,g)::r,K=>match Nat.beq i j with|true=>oV i r K|false=>oV i r fun r=>K ((j,g)::r)
abbrev kQ:=(SV->u0->Nat->Prop)->Prop
def OB(O:u0)(nx:Nat)(v:SV):kQ:=fun K=>Ww v fun v=>K v O nx
def OC(O:u0)(nx:Nat)(v:SV)(h:Hp):kQ:=fun K=>lW h fun h=>Ww v fun v=>K v ((nx,h)::O) (nx+1)
def OD(O:u0)(nx:Nat)(i:Nat)(h:Hp)(v:SV):kQ:=fun K=>lW h fun h=>Ww v fun v=>me i h O fun O=>K v O nx
def OE(O:u0)(nx:Nat)(i:Nat)(h:Hp)(v:SV):kQ:=fun K=>lW h fun h=>Ww v fun v=>oV i O fun O=>K v ((nx,h)::O) (nx+1)
def OG(p:Prop)(_:uz)(k:kQ):kQ:=fun K=>ud p (k K)
def OH(rs:List (List SV))(i:Nat)(_:List SV->uz)(f:List SV->kQ):kQ:=fun K=>GET rs i fun row=>Wh row fun row=>f row K
def OI(b:Bool)(_ _:uz)(x y:kQ):kQ:=fun K=>IF b x y K
def OJ(r:Option (Nat×SV))(_:Nat->SV->uz)(_:uz)(f:Nat->SV->kQ)(x:kQ):kQ:=fun K=>jx r (fun i v K=>Ww v fun v=>f i v K) x K
def OL(r:Option (Nat×DC))(_:Nat->DC->uz)(_:uz)(f:Nat->DC->kQ)(x:kQ):kQ:=fun K=>wZ r f x K
def OM(O:u0)(nx:Nat)(i:Nat)(h h2:Hp)(v:SV):kQ:=fun K=>lW h fun h=>lW h2 fun h2=>Ww v fun v=>me i h O fun O=>K v ((nx,h2)::O) (nx+1)
def ON(O:u0)(nx:Nat)(i:Nat)(h:Hp)(k:Nat)(v:SV):kQ:=fun K=>lW h fun h=>Ww v fun v=>me i h O fun O=>oV k O fun O=>K v O nx
def OO:kQ:=fun _=>uE "operation"
noncomputable def uz.go (O:u0)(nx:Nat)(r:uz):kQ:=
 uz.rec (motive:=fun _=>kQ) (OB O nx) (OC O nx) (OD O nx) (OE O nx) OG OH OI OJ OL (OM O nx) (ON O nx) OO r
def wJ(d:Option Tmp)(v:SV)(fr:Fr)(K:Fr->Prop):Prop:=
 match d with
 |some d=>K ((d,v)::fr)
 |none=>K fr
def Jj(N:Nat):Option Tmp->Bool
 |some d=>Nat.blt d N
 |none=>true
def VA(lk:Operand->Option SV)(c:Call):Option (FuncId×List SV):=
 match c.callee with
 | .value f=>match lk f,qK lk c.args.toList with
   |some (.fn (.func f) first cap),some args=>some (f,first++args++cap)
   |_,_=>none
 |_=>none
def EW(lk:Operand->Option SV)(c:Call):Option (Nat×List SV):=
 match c.callee with
 | .value f=>match lk f,qK lk c.args.toList with
   |some (.yf (.loc j)),some args=>some (j,args)
   |_,_=>none
 |_=>none
def EX(c:Call):Bool:=match c.callee with| .builtin _=>true|_=>false
def oW(M:Mx)(o:Oper)(lk:Operand->Option SV)(O:u0)(nx:Nat)(K:SV->u0->Nat->Prop):Prop:=
 match Jj M.C.N o.dst with
 |false=>uE "slot"
 |true=>
  match o.op with
  | .call c=>match EX c with
    |true=>(wj M.C lk O nx (.call c)).go O nx K
    |false=>match VA lk c with
     |some (f,args)=>Ud args fun args=>CALL M f args O nx fun r O nx=>Ww r fun r=>sw O fun O=>K r O nx
     |none=>match EW lk c with
      |some (j,args)=>Ud args fun args=>fO M j args O nx fun r O nx=>Ww r fun r=>sw O fun O=>K r O nx
      |none=>uE "callee"
  |op=>(wj M.C lk O nx op).go O nx K
def YF:SV:= .uI []
def OP(M:Mx)(c:Call)(fr:Fr)(K:Fr->Prop):Prop:=
 match M.C.ro with
 |some _=>uE "defer"
 |none=>match c.callee,c.args.toList with
  | .value f,[]=>match Jx fr f with
    |some (.fn (.func g) [] cap)=>match u6 DS fr with
     |none=>K ((DS, .jQ [.fn (.func g) [] cap])::fr)
     |some _=>uE "defer"
    |_=>uE "defer"
  |_,_=>uE "defer"
def lZ(M:Mx)(o:Oper)(fr:Fr)(O:u0)(nx:Nat)(K:Fr->SV->u0->Nat->Prop):Prop:=
 match M.px with
 |none=>oW M o (Jx fr) O nx (K fr)
 |some (kp,X)=>match Jj M.C.N o.dst with
  |false=>uE "slot"
  |true=>match o.op with
   | .panic x=>match Jx fr x with
     |some (.gR t u)=>Ww (.gR t u) fun v=>EV kp fr/\X v O nx
     |_=>uE "panic"
   | .defer c=>OP M c fr fun fr=>K fr YF O nx
   | .call c=>match EX c with
     |true=>oW M o (Jx fr) O nx (K fr)
     |false=>match VA (Jx fr) c with
      |some (f,args)=>Ud args fun args=>qn M f args O nx (fun v O nx=>EV kp fr/\X v O nx) fun r O nx=>Ww r fun r=>sw O fun O=>K fr r O nx
      |none=>oW M o (Jx fr) O nx (K fr)
   |_=>oW M o (Jx fr) O nx (K fr)
def Ue(ops:List Oper)(j:Nat):Option Nat:=match nth ops j with|some o=>o.dst|none=>none
abbrev RunT:=Fr->u0->Nat->(Fr->u0->Nat->Prop)->Prop
def OQ:RunT:=fun fr O nx K=>K fr O nx
def EY(M:Mx)(ops:List Oper)(o:Oper)(_:List Oper)(rest:RunT):RunT:=fun fr O nx K=>
 match o.guard with
 |none=>lZ M o fr O nx fun fr v O nx=>wJ o.dst v fr fun fr=>rest fr O nx K
 |some (j,want)=>
  match Ue ops j with
  |none=>uE "guard"
  |some s=>match u6 s fr with
   |some (.bool b)=>IF b
    (fun J=>match want with
     |true=>lZ M o ((s, .bool true)::fr) O nx fun fr v O nx=>wJ o.dst v fr fun fr=>J fr O nx
     |false=>match Jj M.C.N o.dst with|true=>wJ o.dst YF ((s, .bool true)::fr) fun fr=>J fr O nx|false=>uE "slot")
    (fun J=>match want with
     |false=>lZ M o ((s, .bool false)::fr) O nx fun fr v O nx=>wJ o.dst v fr fun fr=>J fr O nx
     |true=>match Jj M.C.N o.dst with|true=>wJ o.dst YF ((s, .bool false)::fr) fun fr=>J fr O nx|false=>uE "slot")
    (fun fr O nx=>rest fr O nx K)
   |some (.uI [])=>match Jj M.C.N o.dst with|true=>wJ o.dst YF fr fun fr=>rest fr O nx K|false=>uE "slot"
   |some (.nb n)=>sx n
    (fun J=>match want with
     |true=>lZ M o ((s, .bool true)::fr) O nx fun fr v O nx=>wJ o.dst v fr fun fr=>J fr O nx
     |false=>match Jj M.C.N o.dst with|true=>wJ o.dst YF ((s, .bool true)::fr) fun fr=>J fr O nx|false=>uE "slot")
    (fun J=>match want with
     |false=>lZ M o ((s, .bool false)::fr) O nx fun fr v O nx=>wJ o.dst v fr fun fr=>J fr O nx
     |true=>match Jj M.C.N o.dst with|true=>wJ o.dst YF ((s, .bool false)::fr) fun fr=>J fr O nx|false=>uE "slot")
    (fun fr O nx=>rest fr O nx K)
   |_=>uE "guard"
noncomputable def o5 (M:Mx)(ops:List Oper)(l:List Oper):RunT:=List.rec (motive:=fun _=>RunT) OQ (EY M ops) l
def Ft:List (Nat×Bool)->List (Nat×Bool)->Bool
 | [],_=>true
 |(s,b)::r,p=>(p.any fun q=>Nat.beq q.1 s&& (q.2==b))&&Ft r p
def mI(fr:Fr)(gs:Gs)(path:List (Nat×Bool)):Operand->Option SV
 | .tmp t=>match u6 t gs with
   |some (q,v)=>match Ft q path with|true=>some v|false=>none
   |none=>u6 t fr
 |x=>Jx fr x
def WU(fr:Fr)(gs:Gs):List (Nat×Bool)->Option Bool
 | []=>some true
 |(s,want)::r=>
  match mI fr gs r (.tmp s)with
  |some (.bool b)=>match WU fr gs r with
   |some x=>match want with
    |true=>some (x&&b)
    |false=>some (x&&!b)
   |none=>none
  |_=>none
abbrev jV:=(SV->Prop)->Prop
def Fu(v:SV):jV:=fun K=>Ww v K
def OR(g:Prop)(p:Prop)(_:uz)(k:jV):jV:=fun K=>ud (g->p) (k K)
def OS(g:Prop)(rs:List (List SV))(i:Nat)(_:List SV->uz)(f:List SV->jV):jV:=fun K=>o4 g rs i fun row=>Wh row fun row=>f row K
def WV:jV:=fun _=>uE "guarded operation"
noncomputable def uz.gg (g:Prop)(r:uz):jV:=
 uz.rec (motive:=fun _=>jV) Fu (fun _ _=>WV) (fun _ _ _=>WV) (fun _ _ _=>WV) (OR g) (OS g) (fun _ _ _ _ _=>WV) (fun _ _ _ _ _=>WV) (fun _ _ _ _ _=>WV) (fun _ _ _ _=>WV) (fun _ _ _ _=>WV) WV r
def OT(fr:Fr)(gs:Gs)(path:List (Nat×Bool))(c a b:Operand):uz:=
 match c with
 | .tmp s=>match mI fr gs path c with
   |some (.bool x)=>match mI fr gs ((s,true)::path) a,mI fr gs ((s,false)::path) b with
    |some (.bool a),some (.bool b)=> .val (.bool (bif x then a else b))
    |_,_=> .fail
   |_=> .fail
 |_=> .fail
def Q0(C:Cx)(fr:Fr)(gs:Gs)(path:List (Nat×Bool))(O:u0)(nx:Nat):Op->uz
 | .pick c a b=>OT fr gs path c a b
 |op=>wj C (mI fr gs path) O nx op
def K1(d:Nat)(p:List (Nat×Bool)):Bool:=p.all fun q=>!(Nat.beq q.1 d)
def OU(d:Option Tmp)(gs:Gs):Bool:=
 match d with
 |none=>true
 |some d=>gs.all fun e=>!(Nat.beq e.1 d)&&K1 d e.2.1
def mJ(gs:Gs)(s:Nat)(want:Bool):List (Nat×Bool):=(s,want)::(match u6 s gs with|some (q,_)=>q|none=>[])
abbrev K2:=Fr->Gs->u0->Nat->(Fr->u0->Nat->Prop)->Prop
def I4:K2:=fun fr _ O nx K=>K fr O nx
def EZ(M:Mx)(ops:List Oper)(o:Oper)(_:List Oper)(rest:K2):K2:=fun fr gs O nx K=>
 match Jj M.C.N o.dst with
 |false=>uE "slot"
 |true=>match OU o.dst gs with
  |false=>uE "slot"
  |true=>match o.guard with
   |none=>(match o.op with
    | .call c=>match EX c with
      |true=>(Q0 M.C fr gs [] O nx (.call c)).go O nx fun v O nx=>wJ o.dst v fr fun fr=>rest fr gs O nx K
      |false=>match VA (mI fr gs []) c with
       |some (f,args)=>Ud args fun args=>CALL M f args O nx fun r O nx=>Ww r fun r=>sw O fun O=>wJ o.dst r fr fun fr=>rest fr gs O nx K
       |none=>uE "callee"
    |op=>(Q0 M.C fr gs [] O nx op).go O nx fun v O nx=>wJ o.dst v fr fun fr=>rest fr gs O nx K)
   |some (j,want)=>
    match Ue ops j with
    |none=>uE "guard"
    |some s=>match o.dst with
     |none=>uE "guard"
     |some d=>match K1 d (mJ gs s want)with
      |false=>uE "slot"
      |true=>match WU fr gs (mJ gs s want)with
       |none=>uE "path"
       |some g=>(Q0 M.C fr gs (mJ gs s want) O nx o.op).gg (g=true) fun v=>rest ((d, .any)::fr) ((d,mJ gs s want,v)::gs) O nx K
noncomputable def oZ (M:Mx)(ops:List Oper)(l:List Oper):K2:=List.rec (motive:=fun _=>K2) I4 (EZ M ops) l
def D0:Op->Bool
 | .move _| .assign _| .pick .. | .binOp .. | .unOp .. | .load .. | .index .. | .indexAddr .. | .fieldAddr .. | .field .. | .extract .. | .nilCheck _| .slice .. =>false
 | .convert .. =>false
 | .build .. =>false
 | .call {callee:= .builtin .len, .. }=>false
 |_=>true
def OV(ops:List Oper):Bool:=ops.any fun o=>match o.guard with|some _=>D0 o.op|none=>false
def guarded(ops:List Oper):Bool:=ops.any fun o=>match o.guard with|some _=>true|none=>false
abbrev kW:=Fr->u0->Nat->Post->Prop
def I5:kW:=fun fr O nx Q=>Q .normal fr O nx
def I6(_:Nat):kW:=fun fr O nx Q=>Q .normal fr O nx
noncomputable def OW (M:Mx)(id:Nat)(ops:Array Oper)(draw:Bool):kW:=fun fr O nx Q=>
 match draw with
 |true=>uK M id ops fr O nx Q
 |false=>match guarded ops.toList&&!(OV ops.toList)&&M.px.isNone with
  |true=>oZ M ops.toList ops.toList fr [] O nx fun fr O nx=>Q .normal fr O nx
  |false=>o5 M ops.toList ops.toList fr O nx fun fr O nx=>Q .normal fr O nx
def D1(_ _:Code)(a b:kW):kW:=fun fr O nx Q=>a fr O nx fun e fr O nx=>match e with| .normal=>b fr O nx Q|e=>Q e fr O nx
def OX(c:Operand)(_ _:Code)(x y:kW):kW:=fun fr O nx Q=>
 match Jx fr c with
 |some (.bool b)=>match c with
  | .tmp t=>IF b (fun Q=>x ((t, .bool true)::fr) O nx Q) (fun Q=>y ((t, .bool false)::fr) O nx Q) Q
  |_=>IF b (fun Q=>x fr O nx Q) (fun Q=>y fr O nx Q) Q
 |some (.nb n)=>match c with
  | .tmp t=>sx n (fun Q=>x ((t, .bool true)::fr) O nx Q) (fun Q=>y ((t, .bool false)::fr) O nx Q) Q
  |_=>uE "test"
 |_=>uE "test"
def I7(id:Nat)(_:Code)(body:kW):kW:=fun fr O nx Q=>body fr O nx fun e fr O nx=>match e with
 | .exit i=>match Nat.beq i id with|true=>Q .normal fr O nx|false=>Q (.exit i) fr O nx
 |e=>Q e fr O nx
def I8(M:Mx)(body:Code)(_:kW):kW:=fun fr O nx Q=>ua M body fr O nx Q
def I9(M:Mx)(f:Operand)(ps:Array Tmp)(eD body:Code)(_ _:kW):kW:=fun fr O nx Q=>kg M f ps eD body fr O nx Q
def Ia(id:Nat):kW:=fun fr O nx Q=>Q (.exit id) fr O nx
def Ib(_:Code)(body:kW):kW:=body
def D2:kW:=fun fr O nx Q=>Q .ret fr O nx
def OY:kW:=fun _ _ _ _=>uE "code"
noncomputable def run (M:Mx)(c:Code):kW:=
 Code.rec (motive:=fun _=>kW) I5 (OW M) D1 OX I7 (I8 M) (I9 M) Ia Ib I6 (fun _=>OY) D2 (fun _=>OY) c
theorem Ic{b:wG}{K:wG->Prop}:QN b K<->K b:=by cases b<;>rfl
theorem OZ{v:SV}{K:SV->Prop}:QO v K<->K v:=by
 cases v<;>first|rfl|(simp only[QO];exact Ic)
theorem Jt:∀{vs:List SV} {K:List SV->Prop},Wh vs K<->K vs
 | [],_=>xY
 |c::cs,K=>by simp only[Wh,OZ,Jt]
theorem P0{v:SV}{K:SV->Prop}:Fe v K<->K v:=by
 cases v<;>simp only[Fe,OZ,Jt]
theorem XQ:∀{vs:List SV} {K:List SV->Prop},Ud vs K<->K vs
 | [],_=>xY
 |c::cs,K=>by simp only[Ud,P0,XQ]
theorem Yl{v:SV}{K:SV->Prop}:Ww v K<->K v:=by
 cases v<;>simp only[Ww,P0,XQ]
theorem Vi{h:Hp}{K:Hp->Prop}:lW h K<->K h:=by
 cases h<;>simp only[lW,Jt]
theorem Vj:∀{O:u0} {K:u0->Prop},sw O K<->K O
 | [],_=>xY
 |(i,h)::r,K=>by simp only[sw,Vj]
theorem Ja{i:Nat}{h:Hp}:∀{O:u0} {K:u0->Prop},me i h O K<->K (uO i h O)
 | [],_=>xY
 |(j,g)::r,K=>by
  unfold me uO;cases Nat.beq i j
  exact Ja;exact xY
theorem XG{i:Nat}:∀{O:u0} {K:u0->Prop},oV i O K<->K (wh i O)
 | [],_=>xY
 |(j,g)::r,K=>by
  unfold oV wh;cases Nat.beq i j
  exact XG;exact XG
def uz.ok(O:u0)(nx:Nat):uz->SV->u0->Nat->Prop
 | .val v,v',O',vZ=>v'=v/\O'=O/\vZ=nx
 | .new v h,v',O',vZ=>v'=v/\O'=(nx,h)::O/\vZ=nx+1
 | .jK i h v,v',O',vZ=>v'=v/\O'=uO i h O/\vZ=nx
 | .fE i h v,v',O',vZ=>v'=v/\O'=(nx,h)::wh i O/\vZ=nx+1
 | .need p k,v',O',vZ=>p/\k.ok O nx v' O' vZ
 | .get rs i f,v',O',vZ=> ∃row,rs[i]?=some row/\(f row).ok O nx v' O' vZ
 | .find r f x,v',O',vZ=>match r with|some (i,v)=>(f i v).ok O nx v' O' vZ|none=>x.ok O nx v' O' vZ
 | .findD r f x,v',O',vZ=>match r with|some (i,v)=>(f i v).ok O nx v' O' vZ|none=>x.ok O nx v' O' vZ
 | .take i h h2 v,v',O',vZ=>v'=v/\O'=(nx,h2)::uO i h O/\vZ=nx+1
 | .jL i h k v,v',O',vZ=>v'=v/\O'=wh k (uO i h O)/\vZ=nx
 | .ite b x y,v',O',vZ=>if b=true then x.ok O nx v' O' vZ else y.ok O nx v' O' vZ
 | .fail,_,_,_=>False
theorem uz.go_ok{O:u0}{nx:Nat}:∀{r:uz} {K:SV->u0->Nat->Prop},r.go O nx K->∃v O' vZ,r.ok O nx v O' vZ/\K v O' vZ
 | .val v,K,h=>by simp only[uz.go,OB,Yl]at h;exact⟨_,_,_,⟨rfl,rfl,rfl⟩,h⟩
 | .new v g,K,h=>by simp only[uz.go,OC,Yl,Vi]at h;exact⟨_,_,_,⟨rfl,rfl,rfl⟩,h⟩
 | .jK i g v,K,h=>by simp only[uz.go,OD,Yl,Vi,Ja]at h;exact⟨_,_,_,⟨rfl,rfl,rfl⟩,h⟩
 | .fE i g v,K,h=>by simp only[uz.go,OE,Yl,Vi,XG]at h;exact⟨_,_,_,⟨rfl,rfl,rfl⟩,h⟩
 | .need p k,K,h=>by
   simp only[uz.go,OG]at h;obtain⟨v,O',vZ,h1,h2⟩:=uz.go_ok h.k;exact⟨v,O',vZ,⟨h.p,h1⟩,h2⟩
 | .get rs i f,K,h=>by
   simp only[uz.go,OH,Jt]at h;obtain⟨row,hr,h⟩:=h.out;obtain⟨v,O',vZ,h1,h2⟩:=uz.go_ok h;exact⟨v,O',vZ,⟨row,hr,h1⟩,h2⟩
 | .find r f x,K,h=>by
   simp only[uz.go,OJ]at h;cases hr:r with
   |none=>
    obtain⟨v,O',vZ,h1,h2⟩:=uz.go_ok (h.n hr);exact⟨v,O',vZ,h1,h2⟩
   |some p=>
    obtain⟨i,u⟩:=p;have h:=h.s i u hr;rw[Yl]at h;obtain⟨v,O',vZ,h1,h2⟩:=uz.go_ok h;exact⟨v,O',vZ,h1,h2⟩
 | .findD r f x,K,h=>by
   simp only[uz.go,OL]at h;cases hr:r with
   |none=>
    obtain⟨v,O',vZ,h1,h2⟩:=uz.go_ok (h.n hr);exact⟨v,O',vZ,h1,h2⟩
   |some p=>
    obtain⟨i,u⟩:=p;obtain⟨v,O',vZ,h1,h2⟩:=uz.go_ok (h.s i u hr);exact⟨v,O',vZ,h1,h2⟩
 | .take i g g2 v,K,h=>by simp only[uz.go,OM,Yl,Vi,Ja]at h;exact⟨_,_,_,⟨rfl,rfl,rfl⟩,h⟩
 | .jL i g k v,K,h=>by simp only[uz.go,ON,Yl,Vi,Ja,XG]at h;exact⟨_,_,_,⟨rfl,rfl,rfl⟩,h⟩
 | .ite b x y,K,h=>by
   simp only[uz.go,OI]at h;by_cases hb:b=true
   .obtain⟨v,O',vZ,h1,h2⟩:=uz.go_ok (h.t hb);exact⟨v,O',vZ,by simp only[uz.ok,z8 hb];exact h1,h2⟩
   .obtain⟨v,O',vZ,h1,h2⟩:=uz.go_ok (h.f (by simpa using hb));exact⟨v,O',vZ,by simp only[uz.ok,z6 hb];exact h1,h2⟩
 | .fail,K,h=>by simp only[uz.go,OO]at h;exact h.out.elim
theorem Zq{a b:Nat}(h:Nat.beq a b=true):a=b:=Nat.eq_of_beq_eq_true h
theorem X8(a:Nat):Nat.beq a a=true:=Nat.beq_refl a
theorem Fv{a b:Nat}(h:a≠b):Nat.beq a b=false:=by
 cases e:Nat.beq a b
 rfl
 exact(h (Zq e)).elim
theorem Jb{a b:Nat}(h:Nat.beq a b=false):a≠b:=by
 intro e;subst e;rw[X8]at h;cases h
section
variable {Y:Type}
theorem Z6(t d:Nat)(v:Y)(r:List (Nat×Y)):u6 t ((d,v)::r)=if t=d then some v else u6 t r:=by
 by_cases h:t=d
 subst h;simp only[u6,X8,z8];simp only[u6,Fv h,z6 h]
theorem Y5(i:Nat)(h:Y):∀(O:List (Nat×Y)) (j:Nat),(u6 i O).isSome->u6 j (uO i h O)=if j=i then some h else u6 j O
 | [],j,hi=>by simp[u6]at hi
 |(d,u)::r,j,hi=>by
  unfold uO;by_cases e:i=d
  subst e;simp only[X8,Z6];split<;>rfl
  .simp only[Fv e,Z6];rw[Z6,z6 e]at hi;have ih:=Y5 i h r j hi;by_cases hj:j=d
   subst hj;rw[z8 rfl,z6 (fun h=>e h.symm),z8 rfl];rw[z6 hj,z6 hj,ih]
theorem Jq(i:Nat):∀(O:List (Nat×Y)) (j:Nat),j≠i->u6 j (wh i O)=u6 j O
 | [],j,hj=>rfl
 |(d,u)::r,j,hj=>by
  unfold wh;by_cases e:i=d
  subst e;simp only[X8,Z6,z6 hj];exact Jq i r j hj;simp only[Fv e,Z6,Jq i r j hj]
theorem Ym(i:Nat):∀(O:List (Nat×Y)),u6 i (wh i O)=none
 | []=>rfl
 |(d,u)::r=>by
  unfold wh;by_cases e:i=d
  subst e;simp only[X8];exact Ym i r;simp only[Fv e,Z6,z6 e];exact Ym i r
end
theorem o6{a b:wG}:aZ a b=true<->a=b:=by
 cases a<;>cases b<;>simp[aZ]
theorem Env.ug{J η':Env}(h:J<+:η'){b:wG}{x:Option qJ}(hb:J.get b=some x):η'.get b=some x:=by
 cases b with
 |uM g=>exact hb
 |loc i=>
  obtain⟨t,rfl⟩:=h;simp only[Env.get]at hb⊢;rw[zu (zg.1 hb).1];exact hb
mutual
theorem Den.mono{J η':Env}(h:J<+:η'):∀{sv:SV} {v:Value},Den J sv v->Den η' sv v
 | .bool _,_,d=>d
 | .int _ _,_,d=>d
 | .str _,_,d=>d
 | .ptr b r es c,v,d=>by
   simp only[Den]at d⊢;obtain⟨e,h1,h2⟩:=d;exact⟨e,Env.ug h h1,h2⟩
 | .sl b r es len lim,v,d=>by
   simp only[Den]at d⊢;rcases d with⟨h1,h2⟩|⟨e,o,h1,h2⟩
   exact .inl ⟨Env.ug h h1,h2⟩;exact .inr ⟨e,o,Env.ug h h1,h2⟩
 | .val _,_,d=>d
 | .agg cs,v,d=>by
   simp only[Den]at d⊢;obtain⟨vs,h1,h2,h3⟩:=d;exact⟨vs,h1,vX.mono h h2,h3⟩
 | .arr es rs,v,d=>by
   simp only[Den]at d⊢;obtain⟨vs,h1,h2,h3⟩:=d;exact⟨vs,h1,uk.mono h h2,h3⟩
 | .uI ts,v,d=>by
   simp only[Den]at d⊢;obtain⟨vs,h1,h2⟩:=d;exact⟨vs,h1,vX.mono h h2⟩
 | .gR t x,v,d=>by
   simp only[Den]at d⊢;obtain⟨u,h1,h2⟩:=d;exact⟨u,h1,Den.mono h h2⟩
 | .fn f a b,v,d=>by
   simp only[Den]at d⊢;obtain⟨us,vs,h1,h2,h3⟩:=d;exact⟨us,vs,h1,vX.mono h h2,vX.mono h h3⟩
 | .mp b,v,d=>by
   simp only[Den]at d⊢;obtain⟨e,h1,h2⟩:=d;exact⟨e,Env.ug h h1,h2⟩
 | .yf b,v,d=>by
   simp only[Den]at d⊢;obtain⟨e,h1,h2⟩:=d;exact⟨e,Env.ug h h1,h2⟩
 | .jQ _,_,d=>d
 | .any,_,d=>d
 | .nb _,_,d=>d
theorem vX.mono{J η':Env}(h:J<+:η'):∀{cs:List SV} {vs:List Value},vX J cs vs->vX η' cs vs
 | [],_,d=>d
 |c::cs,vs,d=>by
  simp only[vX]at d⊢;obtain⟨u,us,h1,h2,h3⟩:=d;exact⟨u,us,h1,Den.mono h h2,vX.mono h h3⟩
theorem uk.mono{J η':Env}{es:Nat}(h:J<+:η'):∀{rs:List (List SV)} {vs:List Value},uk J es rs vs->uk η' es rs vs
 | [],_,d=>d
 |r::rs,vs,d=>by
  simp only[uk]at d⊢;obtain⟨us,ws,h1,h2,h3,h4⟩:=d;exact⟨us,ws,h1,h2,vX.mono h h3,uk.mono h h4⟩
end
theorem um.mono{J η':Env}(h:J<+:η'){arr:Array Value}{o:Nat}{row:List SV}(d:um J arr o row):um η' arr o row:=
 fun j sv hj=>let⟨v,h1,h2,h3⟩:=d j sv hj;⟨v,h1,h2,h3.mono h⟩
theorem qL.mono{J η':Env}(h:J<+:η'){tmps:Array Value}{fr:Fr}(d:qL J tmps fr):qL η' tmps fr:=fun t sv ht=>(d t sv ht).mono h
theorem jy.mono{J η':Env}(h:J<+:η'){r:Loop}{st:aY}{li:mH}{fr:Fr}(d:jy J r st li fr):jy η' r st li fr:=
 let⟨h1,h2,h3,h4,h5,h6,h7⟩:=d;⟨h1,h2,h3,h4,h5,h6,h7.mono h⟩
theorem jh.mono{J η':Env}(h:J<+:η'):∀{l:List SV} {ds:List Deferred},jh J l ds->jh η' l ds
 | [],_,d=>d
 |c::l,ds,d=>by
  cases c with
  |ptr b _ _ _=>
   simp only[jh]at d⊢;obtain⟨e,r,h1,h2,h3⟩:=d;exact⟨e,r,Env.ug h h1,h2,jh.mono h h3⟩
  |val v=>
   simp only[jh]at d⊢;obtain⟨f,r,h1,h2,h3⟩:=d;exact⟨f,r,h1,h2,jh.mono h h3⟩
  |fn f x y=>
   simp only[jh]at d⊢;obtain⟨us,vs,r,h1,h2,h3,h4⟩:=d;exact⟨us,vs,r,h1.mono h,h2.mono h,h3,jh.mono h h4⟩
  |_=>simp only[jh]at d
theorem qU.mono{J η':Env}(h:J<+:η'){ds:List Deferred}{v:Option SV}(d:qU J ds v):qU η' ds v:=by
 unfold qU at d⊢;split at d
 exact jh.mono h d;exact d
theorem wD.mono{J η':Env}(h:J<+:η'){w:World}{v:Value}{es:Nat}{rows:List (List SV)}(d:wD J w v es rows):wD η' w v es rows:=
 d.imp id fun⟨g,cap,arr,T,fz,h1,h2,h3,h4,h5,h6⟩=>⟨g,cap,arr,T,fz,h1,h2,h3,h4,h5,fun i row hr=>⟨(h6 i row hr).1,(h6 i row hr).2.mono h⟩⟩
theorem qm.mono{J η':Env}(h:J<+:η'){w:World}{g:Nat}{o:Obj}{es:Nat}{rs:List (List DC)}(d:qm J w g o es rs):qm η' w g o es rs:=
 ⟨fun i j es' rows hk=>let⟨v,h1,h2,h3⟩:=d.sat i j es' rows hk;⟨v,h1,h2.mono h,h3⟩,d.ne⟩
theorem uQ.o7{J:Env}{w:World}{own:Bool}{b:wG}{es:Nat}{rs:List (List SV)}(d:uQ J w own b es rs):∃x,J.get b=some x/\∀e,x=some e->e.g<w.heap.size:=by
 rcases d with h|⟨e,arr,T,fz,h1,h2,h3⟩
 exact⟨_,h.1,fun e' he=>by cases he⟩;exact⟨_,h1,fun e' he=>by cases he;exact(zC.1 h2).1⟩
theorem gu.o7{J:Env}{w:World}{b:wG}{rs:List (List SV)}(d:gu J w b rs):∃x,J.get b=some x/\∀e,x=some e->e.g<w.heap.size:=by
 obtain⟨e,es,h1,h2,h3,h4⟩:=d;exact⟨_,h1,fun e' he=>by cases he;exact(zC.1 h3).1⟩
theorem uS.mono{J η':Env}(h:J<+:η'){w:World}{b:wG}{es:Nat}{rs:List (List DC)}{x:Option qJ}(hx:J.get b=some x)(d:uS J w b es rs):uS η' w b es rs:=by
 intro e he;have:=Env.ug h hx;rw[this]at he;injection he with he;subst he
 obtain⟨h1,h2⟩:=d e hx;exact⟨h1,fun o ho=>(h2 o ho).mono h⟩
theorem vV.mono{J η':Env}(h:J<+:η'){w:World}{own:Bool}{b:wG}:∀{hp:Hp},vV J w own b hp->vV η' w own b hp
 | .box row,d=>by
   simp only[vV]at d⊢;obtain⟨e,arr,T,fz,h1,h2,h3,h4⟩:=d;exact⟨e,arr,T,fz,Env.ug h h1,h2,h3,h4.mono h⟩
 | .rows es rs,d=>by
   simp only[vV]at d⊢;rcases d with⟨h1,h2⟩|⟨e,arr,T,fz,h1,h2,h3,h4⟩
   exact .inl ⟨Env.ug h h1,h2⟩;exact .inr ⟨e,arr,T,fz,Env.ug h h1,h2,h3,fun i row hr=>⟨(h4 i row hr).1,(h4 i row hr).2.mono h⟩⟩
 | .cI vs,d=>by
   simp only[vV]at d⊢;obtain⟨e,h1,h2⟩:=d;exact⟨e,Env.ug h h1,h2⟩
 | .wI s p,d=>by
   simp only[vV]at d⊢;obtain⟨e,h1,h2⟩:=d;exact⟨e,Env.ug h h1,h2⟩
 | .mp rs,d=>by
   simp only[vV]at d⊢;obtain⟨e,es,h1,h2,h3,h4,h5⟩:=d;exact⟨e,es,Env.ug h h1,h2,h3,h4,fun i row hr=>let⟨en,g1,g2,g3⟩:=h5 i row hr;⟨en,g1,g2,vX.mono h g3⟩⟩
 | .gJ _,d=>by
   simp only[vV]at d⊢;obtain⟨e,h1,h2⟩:=d;exact⟨e,Env.ug h h1,h2⟩
 | .lp st li fr,d=>by
   simp only[vV]at d⊢;obtain⟨e,r,h1,h2,h3,h4⟩:=d;exact⟨e,r,Env.ug h h1,h2,h3,h4.mono h⟩
 | .kH T t l,d=>by
   simp only[vV]at d⊢;obtain⟨e,h1,h2⟩:=d;exact⟨e,Env.ug h h1,h2⟩
 | .deep true es rs,d=>by
   simp only[vV]at d⊢;obtain⟨⟨d1,d0⟩,d2⟩:=d;obtain⟨x,hx,_⟩:=d1.o7;refine⟨⟨?_,d0⟩,d2.mono h hx⟩;obtain⟨e,es,h1,h2,h3,h4,h5⟩:=d1;exact⟨e,es,Env.ug h h1,h2,h3,h4,fun i row hr=>let⟨en,g1,g2,g3⟩:=h5 i row hr;⟨en,g1,g2,vX.mono h g3⟩⟩
 | .deep false es rs,d=>by
   simp only[vV]at d⊢;obtain⟨d1,d2⟩:=d;obtain⟨x,hx,_⟩:=d1.o7;refine⟨?_,d2.mono h hx⟩;rcases d1 with⟨h1,h2⟩|⟨e,arr,T,fz,h1,h2,h3,h4⟩
   exact .inl ⟨Env.ug h h1,h2⟩;exact .inr ⟨e,arr,T,fz,Env.ug h h1,h2,h3,fun i row hr=>⟨(h4 i row hr).1,(h4 i row hr).2.mono h⟩⟩
theorem u5.own{J:Env}{w:World}{b:wG}{h:Hp}{e:qJ}(he:J.get b=some (some e)):u5 J w b h e.g:=⟨e,he, .inl rfl⟩
theorem u5.mono{J η':Env}(h:J<+:η'){w:World}{b:wG}{hp:Hp}{k:Nat}(f:u5 J w b hp k):u5 η' w b hp k:=
 let⟨e,h1,h2⟩:=f;⟨e,Env.ug h h1,h2⟩
theorem u5.less{J η':Env}(h:J<+:η'){w:World}{b:wG}{hp:Hp}{k:Nat}{x:Option qJ}(hx:J.get b=some x)(f:u5 η' w b hp k):u5 J w b hp k:=by
 obtain⟨e,h1,h2⟩:=f;have:=Env.ug h hx;rw[this]at h1;exact⟨e,hx.trans h1,h2⟩
theorem uC.keep{w w':World}{g:Nat}{hp:Hp}{k:Nat}(hw:w'.heap[g]?=w.heap[g]?)(f:uC w' g hp k):uC w g hp k:=by
 cases hp with
 |kH T t l=>
  simp only[uC]at f⊢;obtain⟨arr,T',fz,v,h1,h2,h3⟩:=f;exact⟨arr,T',fz,v,hw▸h1,h2,h3⟩
 |deep mp es rs=>
  simp only[uC]at f⊢;obtain⟨o,i,j,x,v,h1,h2,h3,h4⟩:=f;exact⟨o,i,j,x,v,hw▸h1,h2,h3,h4⟩
 |_=>exact f
theorem u5.keep{J:Env}{w w':World}{b:wG}{hp:Hp}{k:Nat}(hw:∀e,J.get b=some (some e)->w'.heap[e.g]?=w.heap[e.g]?)(f:u5 J w' b hp k):u5 J w b hp k:=
 let⟨e,h1,h2⟩:=f;⟨e,h1,h2.imp id fun h=>h.keep (hw e h1)⟩
theorem Ie{w w':World}{base:Nat}{t:TypeId}{size n:Nat}{v:Value}{xs:List Value}(h:w.ownsRowF base t size v n xs)(hk:∀k,v.ownBlock=some k->w'.heap[k]?=w.heap[k]?):w'.ownsRowF base t size v n xs:=by
 obtain⟨h1,h2⟩:=h;refine⟨h1,h2.imp id ?_⟩;rintro⟨g,cap,cur,fz,rfl,h3,h4,h5⟩;exact⟨g,cap,cur,fz,rfl,h3,(hk g rfl).trans h4,h5⟩
theorem Wi{w w':World}{T t:TypeId}{b:Nat}{p:Value}{bs:List Value}(h:Lib.BuilderAtF T t 0 b p bs w)(hk:∀k,k=b\/uC w b (.kH T t []) k->w'.heap[k]?=w.heap[k]?):Lib.BuilderAtF T t 0 b p bs w':=by
 obtain⟨h1,v,h2,h3,h4⟩:=h;refine⟨h1,v,(hk b (.inl rfl)).trans h2,Ie h3 fun k hv=>hk k (.inr ?_),h4⟩;simp only[uC];exact⟨_,_,_,v,h2,rfl,hv⟩
theorem wD.keep{J:Env}{w w':World}{v:Value}{es:Nat}{rows:List (List SV)}(d:wD J w v es rows)(hk:∀k,v.ownBlock=some k->w'.heap[k]?=w.heap[k]?):wD J w' v es rows:=by
 rcases d with d|⟨g,cap,arr,T,fz,h1,h2,h3⟩
 exact .inl d;exact .inr ⟨g,cap,arr,T,fz,h1,(hk g (by rw[h1];rfl)).trans h2,h3⟩
theorem qm.keep{J:Env}{w w':World}{g:Nat}{o:Obj}{es:Nat}{rs:List (List DC)}(d:qm J w g o es rs)(hk:∀k i j x v,Yy rs i j=some x->ZY o es i j=some v->v.ownBlock=some k->w'.heap[k]?=w.heap[k]?):qm J w' g o es rs:=
 ⟨fun i j es' rows dr=>let⟨v,h1,h2,h3⟩:=d.sat i j es' rows dr;⟨v,h1,h2.keep fun k hv=>hk k i j _ v dr h1 hv,h3⟩,d.ne⟩
theorem uS.keep{J:Env}{w w':World}{b:wG}{mp:Bool}{es:Nat}{rs:List (List DC)}(d:uS J w b es rs)(hk:∀k,u5 J w b (.deep mp es rs) k->w'.heap[k]?=w.heap[k]?):uS J w' b es rs:=by
 intro e he;obtain⟨h1,h2⟩:=d e he;refine⟨h1,fun o ho=>?_⟩;rw[hk e.g (u5.own he)]at ho;refine(h2 o ho).keep fun k i j x v dr hc hv=>hk k ⟨e,he, .inr ?_⟩;simp only[uC];exact⟨o,i,j,x,v,ho,dr,hc,hv⟩
theorem vV.keep{J:Env}{w w':World}{own:Bool}{b:wG}{hp:Hp}(d:vV J w own b hp)(hk:∀k,u5 J w b hp k->w'.heap[k]?=w.heap[k]?):vV J w' own b hp:=by
 cases hp with
 |box row=>
  simp only[vV]at d⊢;obtain⟨e,arr,T,fz,h1,h2,h3⟩:=d;exact⟨e,arr,T,fz,h1,(hk e.g (u5.own h1)).trans h2,h3⟩
 |rows es rs=>
  simp only[vV]at d⊢;rcases d with h|⟨e,arr,T,fz,h1,h2,h3⟩
  exact .inl h;exact .inr ⟨e,arr,T,fz,h1,(hk e.g (u5.own h1)).trans h2,h3⟩
 |cI vs=>
  simp only[vV]at d⊢;obtain⟨e,h1,h2,T,fz,h3⟩:=d;exact⟨e,h1,h2,T,fz,(hk e.g (u5.own h1)).trans h3⟩
 |wI s p=>
  simp only[vV]at d⊢;obtain⟨e,h1,h2,h3⟩:=d;exact⟨e,h1,h2,(hk e.g (u5.own h1)).trans h3⟩
 |mp rs=>
  simp only[vV]at d⊢;obtain⟨e,es,h1,h2,h3,h4⟩:=d;exact⟨e,es,h1,h2,(hk e.g (u5.own h1)).trans h3,h4⟩
 |gJ f=>
  simp only[vV]at d⊢;obtain⟨e,h1,h2,h3,h4,h5⟩:=d;exact⟨e,h1,h2,(hk e.g (u5.own h1)).trans h3,fun n hn=>(hk n ⟨e,h1, .inr hn⟩).trans (h4 n hn),h5⟩
 |lp st li fr=>
  simp only[vV]at d⊢;obtain⟨e,r,h1,h2,h3,h4⟩:=d;exact⟨e,r,h1,h2,(hk e.g (u5.own h1)).trans h3,h4⟩
 |kH T t l=>
  simp only[vV]at d⊢;obtain⟨e,h1,h2,h3⟩:=d
  have hk':∀k,k=e.g\/uC w e.g (.kH T t []) k->w'.heap[k]?=w.heap[k]?:=by
   rintro k (rfl|h);exact hk _ (u5.own h1);exact hk k ⟨e,h1, .inr h⟩
  exact⟨e,h1,h2,h3.imp (fun h=>Wi h hk') (fun h=>Wi h hk')⟩
 |deep mp es rs=>
  cases mp
  .simp only[vV]at d⊢;obtain⟨d1,d2⟩:=d;refine⟨?_,d2.keep hk⟩;rcases d1 with h|⟨e,arr,T,fz,h1,h2,h3⟩
   exact .inl h;exact .inr ⟨e,arr,T,fz,h1,(hk e.g (u5.own h1)).trans h2,h3⟩
  .simp only[vV]at d⊢;obtain⟨⟨d1,d0⟩,d2⟩:=d;refine⟨⟨?_,d0⟩,d2.keep hk⟩;obtain⟨e,es,h1,h2,h3,h4⟩:=d1;exact⟨e,es,h1,h2,(hk e.g (u5.own h1)).trans h3,h4⟩
theorem vV.K3{J:Env}{w:World}{b:wG}{hp:Hp}{own:Bool}(d:vV J w own b hp):vV J w false b hp:=by
 cases hp with
 |box row=>
  simp only[vV]at d⊢;obtain⟨e,arr,T,fz,h1,h2,h3,h4⟩:=d;exact⟨e,arr,T,fz,h1,h2,(fun h=>by cases h),h4⟩
 |rows es rs=>
  simp only[vV]at d⊢;rcases d with h|⟨e,arr,T,fz,h1,h2,h3,h4⟩
  exact .inl h;exact .inr ⟨e,arr,T,fz,h1,h2,(fun h=>by cases h),h4⟩
 |wI s p=>exact d
 |cI vs=>exact d
 |mp rs=>exact d
 |gJ f=>exact d
 |lp st li fr=>exact d
 |kH T t l=>exact d
 |deep mp es rs=>
  cases mp
  .simp only[vV]at d⊢;obtain⟨d1,d2⟩:=d;refine⟨?_,d2⟩;rcases d1 with h|⟨e,arr,T,fz,h1,h2,h3,h4⟩
   exact .inl h;exact .inr ⟨e,arr,T,fz,h1,h2,(fun h=>by cases h),h4⟩
  .simp only[vV]at d⊢;exact d
theorem vV.lt{J:Env}{w:World}{b:wG}{hp:Hp}{own:Bool}(d:vV J w own b hp):∃x,J.get b=some x/\∀e,x=some e->e.g<w.heap.size:=by
 have key:∀{e:qJ} {o:Obj},w.heap[e.g]?=some o->e.g<w.heap.size:=fun h=>(zC.1 h).1;cases hp with
 |box row=>
  simp only[vV]at d;obtain⟨e,arr,T,fz,h1,h2,h3⟩:=d;exact⟨_,h1,fun e' he=>by cases he;exact key h2⟩
 |rows es rs=>
  simp only[vV]at d;rcases d with h|⟨e,arr,T,fz,h1,h2,h3⟩
  exact⟨_,h.1,fun e' he=>by cases he⟩;exact⟨_,h1,fun e' he=>by cases he;exact key h2⟩
 |cI vs=>
  simp only[vV]at d;obtain⟨e,h1,h2,T,fz,h3⟩:=d;exact⟨_,h1,fun e' he=>by cases he;exact key h3⟩
 |wI s p=>
  simp only[vV]at d;obtain⟨e,h1,h2,h3⟩:=d;exact⟨_,h1,fun e' he=>by cases he;exact key h3⟩
 |mp rs=>
  simp only[vV]at d;obtain⟨e,es,h1,h2,h3,h4⟩:=d;exact⟨_,h1,fun e' he=>by cases he;exact key h3⟩
 |gJ f=>
  simp only[vV]at d;obtain⟨e,h1,h2,h3,_⟩:=d;exact⟨_,h1,fun e' he=>by cases he;exact key h3⟩
 |lp st li fr=>
  simp only[vV]at d;obtain⟨e,r,h1,h2,h3,h4⟩:=d;exact⟨_,h1,fun e' he=>by cases he;exact key h3⟩
 |kH T t l=>
  simp only[vV]at d;obtain⟨e,h1,h2,h3⟩:=d;refine⟨_,h1,fun e' he=>?_⟩;cases he
  rcases h3 with h3|h3<;>exact h3.lt
 |deep mp es rs=>
  cases mp
  .simp only[vV]at d;exact d.1.o7
  .simp only[vV]at d;exact d.1.1.o7
theorem uC.lt{w:World}{g:Nat}{hp:Hp}{k:Nat}{J:Env}{own:Bool}{b:wG}{e:qJ}(he:J.get b=some (some e))(hg:e.g=g)(d:vV J w own b hp)(f:uC w g hp k):k<w.heap.size:=by
 cases hp with
 |kH T t l=>
  simp only[uC]at f;simp only[vV]at d;obtain⟨arr,T',fz,v,h1,h2,h3⟩:=f;obtain⟨e',h4,h5,h6⟩:=d;rw[he]at h4;injection h4 with h4;injection h4 with h4;subst h4 hg
  have key:∀p,Lib.BuilderAtF T t 0 e.g p (Lib.byteCells l) w->k<w.heap.size:=by
   rintro p ⟨_,v',h7,⟨_,h8⟩,_⟩;rw[h7]at h1;injection h1 with h1;injection h1 with h1;subst h1;simp at h2;subst h2;rcases h8 with⟨rfl,_⟩|⟨g,cap,cur,fz,rfl,_,h9,_⟩
   simp[Value.ownBlock]at h3
   .simp only[Value.ownBlock,zh]at h3;subst h3;exact(zC.1 h9).1
  exact h6.elim (key _) (key _)
 |deep mp es rs=>
  simp only[uC]at f;obtain⟨o,i,j,⟨es',rows⟩,v,h1,h2,h3,h4⟩:=f
  have d2:uS J w b es rs:=by
   cases mp<;>simp only[vV]at d<;>exact d.2
  subst hg;obtain⟨v',g1,g2,_⟩:=((d2 e he).2 o h1).sat i j es' rows h2;rw[h3]at g1;injection g1 with g1;subst g1
  rcases g2 with⟨rfl,_⟩|⟨g,cap,arr,T,fz,rfl,h5,_⟩
  cases h4
  .simp only[Value.ownBlock,zh]at h4;subst h4;exact(zC.1 h5).1
 |gJ l=>
  simp only[vV]at d;obtain⟨e',_,_,_,h4,_⟩:=d;exact(zC.1 (h4 k f)).1
 |_=>exact f.elim
theorem vV.uL{J:Env}{w:World}{own:Bool}{b:wG}{hp:Hp}(d:vV J w own b hp){k:Nat}(f:u5 J w b hp k):k<w.heap.size:=by
 obtain⟨e,h1,h2⟩:=f;rcases h2 with rfl|h2
 .obtain⟨x,hx,hl⟩:=d.lt;rw[hx]at h1;injection h1 with h1
  exact hl e h1
 exact uC.lt h1 rfl d h2
theorem jw.refl(w:World)(F:Nat->Prop):jw w w F:=⟨rfl,rfl,rfl,zn _,zn _,fun _ _ _=>rfl⟩
theorem jw.trans{a b c:World}{F:Nat->Prop}{G:Nat->Prop}(h:jw a b F)(k:jw b c G)(hg:∀n,G n->F n\/a.heap.size<=n):jw a c F:=
 ⟨k.os.trans h.os,k.tape.trans h.tape,k.output.trans h.output,zK h.drawn k.drawn,zK h.size k.size,fun i hi hF=>
  (k.block i (yI hi h.size) (fun g=>(hg i g).elim hF (fun h=>by omega))).trans (h.block i hi hF)⟩
theorem vU.shared{M:Mx}{J:Env}{w:World}{O:u0}{nx:Nat}(H:vU M J w O nx){b:wG}{h:Hp}(hb:bM M.C b=some h):vV J w false b h:=by
 obtain⟨h1,h2⟩:=H.wH b h hb;refine(h1.keep (w':=w) fun k hk=>?_).mono H.pre;obtain⟨h3,h4⟩:=h2 k hk;exact H.fr.block k h3 h4
theorem vU.K4{M:Mx}{J:Env}{w:World}{O:u0}{nx:Nat}(H:vU M J w O nx){i:Nat}{h:Hp}(hi:u6 i O=some h){e:qJ}(he:J[i]?=some (some e)):M.F e.g\/M.w0.heap.size<=e.g:=(H.own.1 i h hi).2 e.g (u5.own he)
theorem vU.look{M:Mx}{J:Env}{w:World}{O:u0}{nx:Nat}(H:vU M J w O nx){b:wG}{h:Hp}(hb:Yv M.C O b=some h):vV J w false b h:=by
 cases b with
 |uM g=>exact H.shared (b:= .uM g) hb
 |loc i=>
  simp only[Yv]at hb;cases ho:u6 i O with
  |some h'=>rw[ho]at hb;cases hb;exact(H.own.1 i _ ho).1.K3
  |none=>rw[ho]at hb;exact H.shared (b:= .loc i) hb
theorem Ig(J:Env)(v:Value):Den J (J9 v) v:=by
 cases v with
 |string s=>simp only[J9,Den]
 |agg cs=>simp only[J9,Den]
 |tuple vs=>
  simp only[J9];split
  .rename_i h;simp only[Den,vX];exact⟨[],by rw[<-h],rfl⟩
  simp only[Den]
 |_=>simp[J9,Den,Value.oneCell']
theorem Yn{J:Env}{a:Act}{fr:Fr}(h:jm J a fr){x:Operand}{sv:SV}(hx:Jx fr x=some sv):Den J sv (a.eval x):=by
 cases x with
 |tmp t=>exact h t sv hx
 |const v=>simp only[Jx,zh]at hx;subst hx;exact Ig J v
 |global g=>simp only[Jx,zh]at hx;subst hx;simp[Den,Env.get,Act.eval]
 |func f=>simp only[Jx,zh]at hx;subst hx;simp[Den,vX,Act.eval]
end Go.Sx
set_option linter.unusedSimpArgs false
namespace Go.Sx
open Go
def qV(T:qg)(t:TypeId):Sh->TypeDesc->Prop
 | .int k,d=>d= .int k
 | .bool,d=>d= .bool
 | .str,d=>d= .string
 | .ptr e,d=>d= .pointer e
 | .slice e,d=>d= .slice e
 | .array n e,d=>d= .array n e/\T.size t=n*T.size e/\T.sh e≠ .other
 | .struct fs,d=> ∃fields:Array Field,d= .struct fields/\fields.toList.map (fun f=>(f.offset,f.type))=fs/\∀p∈fs,T.sh p.2≠ .other
 | .map k e,d=>d= .map k e
 | .iface,d=> ∃ms,d= .interface ms
 | .func,d=> ∃a b c,d= .func a b c
 | .plain,d=>match d with| .float _| .complex _| .chan .. | .unsafePointer| .tuple _=>True|_=>False
 | .other,_=>True
structure ux(P:Program)(T:qg):Prop where
 qY:∀t,T.sh t≠ .other->∃d,P.underlying t=some d/\qV T t (T.sh t) d
 info:∀t,T.sh t≠ .other->∃i,P.info? t=some i/\i.size=T.size t/\i.bytes=T.bytes t
 zero:∀t,T.sh t≠ .other->T.zero t≠ []->∃i z,P.info? t=some i/\i.zero=some z/\vX [] (T.zero t) z.cells.toList/\(∀u∈z.cells.toList,u.oneCell'=true)/\
  (T.zero t).length=T.size t/\(Yu T t (T.zero t)).isSome/\((∃fs,T.sh t= .struct fs)\/(∃n e,T.sh t= .array n e)->z= .agg z.cells)/\(¬((∃fs,T.sh t= .struct fs)\/(∃n e,T.sh t= .array n e))->z.oneCell'=true)
 r5:∀t,T.zero t≠ []->T.sh t≠ .other
 flat:∀t ks,T.flat t=some ks->P.eqGuardType P.depth t=false/\∀(w:World) (K:Env) (xs ys:List SV) (us vs:List Value) (r:Bool),Zi ks xs ys=some r->vX K xs us->vX K ys vs->
  (Op.equalIn 10000 t (.agg ⟨us⟩) (.agg ⟨vs⟩)).run P w= .ok r w
 key:∀t ks,T.key t=some ks->
  (∀(w:World) (K:Env) (em:Bool) (a:SV) (u:Value),Ji ks a=true->Den K a u->(Instr.checkKey em 10000 t u).run P w= .ok () w)/\
  (∀(w:World) (K:Env) (a b:SV) (u v:Value) (r:Bool),Jy ks a b=some r->Den K a u->Den K b v->(Op.equal t u v).run P w= .ok r w/\∀d,P.underlying t=some d->Instr.sameNow d u v=none\/Instr.sameNow d u v=some r)/\(∃d,P.underlying t=some d)
def r6(P:Program)(o:Oper)(ρ:Operand->Value)(w:World)(u:Value)(w':World):Prop:=
 (execOp ρ o).run P w= .ok (.value u) w'\/((execOp ρ o).run P w= .ok .skip w'/\u=undef)
def P3:Op->Bool
 | .store .. | .next .. | .mapUpdate .. | .insert .. | .mapEntry .. | .entryStore .. =>true
 | .call {callee:= .builtin .copy, .. }=>true
 | .call {callee:= .builtin .clear, .. }=>true
 |_=>false
def Y9(M:Mx)(K:Env)(w:World)(o:Oper)(ρ:Operand->Value)(v:SV)(O':u0)(vZ:Nat):Prop:=
 ∃u w' η',r6 M.P o ρ w u w'/\K<+:η'/\vU M η' w' O' vZ/\Den η' v u/\(P3 o.op=false->η'=K->w'=w)
structure At(M:Mx)(K:Env)(w:World)(O:u0)(nx:Nat)(ρ:Operand->Value)(lk:Operand->Option SV):Prop where
 H:vU M K w O nx
 T:ux M.P M.C.T
 L:∀x sv,lk x=some sv->Den K sv (ρ x)
section
variable {M:Mx}{K:Env}{w:World}{O:u0}{nx:Nat}{ρ:Operand->Value}{lk:Operand->Option SV}{o:Oper}{v:SV}{O':u0}{vZ:Nat}
theorem At.same(A:At M K w O nx ρ lk){u:Value}(h:r6 M.P o ρ w u w)(hv:Den K v u)(e1:O'=O)(e2:vZ=nx):Y9 M K w o ρ v O' vZ:=by
 subst e1 e2;exact⟨u,w,K,h,zx,A.H,hv,fun _ _=>rfl⟩
theorem At.val(A:At M K w O nx ρ lk){v0:SV}(hr:(uz.val v0).ok O nx v O' vZ)(h:∃u,r6 M.P o ρ w u w/\Den K v0 u):Y9 M K w o ρ v O' vZ:=by
 obtain⟨rfl,e1,e2⟩:=hr;obtain⟨u,h1,h2⟩:=h;exact A.same h1 h2 e1 e2
end
theorem Jz{K:Env}{k:IntKind}{n:Int}{v:Value}(h:Den K (.int k n) v):v= .int k n:=h
theorem YS{K:Env}{b:Bool}{v:Value}(h:Den K (.bool b) v):v= .bool b:=h
theorem r7{K:Env}{s:List UInt8}{v:Value}(h:Den K (.str s) v):v= .string ⟨s.toArray⟩:=h
theorem Jk{P:Program}{r:Nat}{es:Array MapEntry}{c:Nat}{w:World}(h:w.heap[r]?=some (.map es c)):(getObj r).run P w= .ok (.map es c) w:=by simp[getObj,Sem.run,h]
theorem Z5{P:Program}{t:TypeId}{d:TypeDesc}(h:P.underlying t=some d)(w:World):(underlying t).run P w= .ok d w:=run_underlying h w
theorem UF{P:Program}{t:TypeId}{i:TypeInfo}(h:P.info? t=some i)(w:World):(typeInfo t).run P w= .ok i w:=by simp[typeInfo,h]
theorem Zr{P:Program}{t:TypeId}{i:TypeInfo}(h:P.info? t=some i)(w:World):(sizeOf t).run P w= .ok i.size w:=by simp[sizeOf,UF h]
theorem XH{P:Program}{t:TypeId}{i:TypeInfo}{z:Value}(h:P.info? t=some i)(hz:i.zero=some z)(w:World):(zeroValue t).run P w= .ok z w:=by simp[zeroValue,UF h,hz]
theorem qc{a b:IntKind}:XF a b=true<->a=b:=by cases a<;>cases b<;>simp[XF]
theorem D3(s:List UInt8):(ByteArray.mk s.toArray).toList=s:=by rw[ByteArray.toList_eq]
theorem Ih{P:Program}{w:World}{op:BinOp}{k:IntKind}{a b:Int}{nx:Nat}{O:u0}{v':SV}{O':u0}{vZ:Nat}(ρ:Operand->Value)(dst:Option Tmp)(ty:TypeId)(pos:String)(af:Array Edge)(gd:Option (Nat×Bool))
 (t u:TypeId) (x y:Operand) (k':IntKind) (K:Env) (hx:ρ x= .int k a) (hy:ρ y= .int k' b) (hr:(EM op k k' a b).ok O nx v' O' vZ):
 O'=O/\vZ=nx/\∃z,(execOp ρ ⟨dst, .binOp op t x y u,ty,pos,af,gd⟩).run P w= .ok (.value z) w/\Den K v' z:=by
 have hg:(eqGuard op t x y (.int k a) (.int k' b))=pure ():=by cases op<;>rfl
 unfold EM at hr;cases op
 case shl=>
  obtain⟨h0,rfl,rfl,rfl⟩:=hr;refine⟨rfl,rfl,_,?_,rfl⟩;simp[execOp,hx,hy,hg,binOp,Op.shift,Int.not_lt.2 h0,oT]
 case shr=>
  obtain⟨h0,rfl,rfl,rfl⟩:=hr;refine⟨rfl,rfl,_,?_,rfl⟩;simp[execOp,hx,hy,hg,binOp,Op.shift,Int.not_lt.2 h0,QL]
 all_goals
  simp only at hr;cases hk:XF k k'
  rw[hk]at hr;exact hr.elim
  .rw[hk]at hr;have hk:=qc.1 hk;subst hk
   first
    |(obtain⟨h0,rfl,rfl,rfl⟩:=hr
      refine⟨rfl,rfl,_,?_,rfl⟩
      simp[execOp,hx,hy,hg,binOp,Op.intDiv,h0])
    |(obtain⟨rfl,rfl,rfl⟩:=hr
      refine⟨rfl,rfl,_,?_,rfl⟩
      simp[execOp,hx,hy,hg,binOp,Op.intArith,Op.intBits,Op.intCmp,gU,QK,oS,AP])
    |exact hr.elim
theorem Ii{P:Program}{w:World}{op:BinOp}{a b:List UInt8}{nx:Nat}{O:u0}{v':SV}{O':u0}{vZ:Nat}(ρ:Operand->Value)(dst:Option Tmp)(ty:TypeId)(pos:String)(af:Array Edge)(gd:Option (Nat×Bool))
 (t u:TypeId) (x y:Operand) (K:Env) (hx:ρ x= .string ⟨a.toArray⟩) (hy:ρ y= .string ⟨b.toArray⟩) (hr:(EN op a b).ok O nx v' O' vZ):
 O'=O/\vZ=nx/\∃z,(execOp ρ ⟨dst, .binOp op t x y u,ty,pos,af,gd⟩).run P w= .ok (.value z) w/\Den K v' z:=by
 have hg:(eqGuard op t x y (.string ⟨a.toArray⟩) (.string ⟨b.toArray⟩))=pure ():=by cases op<;>rfl
 unfold EN at hr;cases op
 case add=>
  obtain⟨h0,rfl,rfl,rfl⟩:=hr;refine⟨rfl,rfl,_,?_,rfl⟩;have e1:ByteArray.size ⟨a.toArray⟩=a.length:=by simp[ByteArray.size]
  have e2:ByteArray.size ⟨b.toArray⟩=b.length:=by simp[ByteArray.size]
  have e3:(ByteArray.mk a.toArray++ByteArray.mk b.toArray)=ByteArray.mk (a++b).toArray:=by
   apply ByteArray.ext;simp
  have h1:¬(((a.length+b.length:Nat):Int)>9223372036854775807):=by omega
  simp[execOp,hx,hy,hg,binOp,Op.stringOp,e1,e2,e3];omega
 all_goals
  first
   |(obtain⟨rfl,rfl,rfl⟩:=hr
     refine⟨rfl,rfl,_,?_,rfl⟩
     simp[execOp,hx,hy,hg,binOp,Op.stringOp,D3,QM,bne])
   |exact hr.elim
end Go.Sx
namespace Go.Sx
open Go
section
variable {K:Env}
theorem ZL:∀{cs:List SV} {vs:List Value},vX K cs vs->vs.length=cs.length
 | [],vs,h=>by simp only[vX]at h;subst h;rfl
 |c::cs,vs,h=>by
  simp only[vX]at h;obtain⟨u,us,rfl,_,h⟩:=h;simp[ZL h]
theorem Xo:∀{cs:List SV} {vs:List Value} {i:Nat} {c:SV},vX K cs vs->cs[i]?=some c->∃u,vs[i]?=some u/\Den K c u
 | [],vs,i,c,h,hc=>by simp at hc
 |d::cs,vs,i,c,h,hc=>by
  simp only[vX]at h;obtain⟨u,us,rfl,h1,h2⟩:=h;cases i with
  |zero=>simp at hc;subst hc;exact⟨u,rfl,h1⟩
  |succ i=>simp at hc;simpa using Xo h2 hc
theorem V9{J:Type}:∀{cs:List J} {i:Nat},nth cs i=cs[i]?
 | [],i=>by simp[nth]
 |c::cs,0=>by simp[nth]
 |c::cs,i+1=>by simp[nth,V9 (cs:=cs) (i:=i)]
theorem D4:∀{n:Nat} {cs:List SV} {vs:List Value},vX K cs vs->vX K (cs.drop n) (vs.drop n)
 |0,cs,vs,h=>h
 |n+1,[],vs,h=>by simp only[vX]at h;subst h;simp[vX]
 |n+1,c::cs,vs,h=>by
  simp only[vX]at h;obtain⟨u,us,rfl,_,h2⟩:=h;simpa using D4 (n:=n) h2
theorem Vk:∀{n:Nat} {cs r:List SV},o3 n cs=some r->r=cs.take n/\n<=cs.length
 |0,cs,r,h=>by simp only[o3,zh]at h;subst h;simp
 |n+1,[],r,h=>by simp[o3]at h
 |n+1,c::cs,r,h=>by
  simp only[o3]at h;cases e:o3 n cs with
  |none=>rw[e]at h;cases h
  |some q=>
   rw[e]at h;simp only[zh]at h;subst h;obtain⟨h1,h2⟩:=Vk e;subst h1;simp;omega
theorem D5:∀{n:Nat} {cs:List SV} {vs:List Value},vX K cs vs->vX K (cs.take n) (vs.take n)
 |0,cs,vs,h=>by simp[vX]
 |n+1,[],vs,h=>by simp only[vX]at h;subst h;simp[vX]
 |n+1,c::cs,vs,h=>by
  simp only[vX]at h;obtain⟨u,us,rfl,h1,h2⟩:=h;simp only[List.take_succ_cons,vX];exact⟨u,_,rfl,h1,D5 (n:=n) h2⟩
theorem YJ:∀{cs ds:List SV} {us vs:List Value},vX K cs us->vX K ds vs->vX K (cs++ds) (us++vs)
 | [],ds,us,vs,h,k=>by simp only[vX]at h;subst h;exact k
 |c::cs,ds,us,vs,h,k=>by
  simp only[vX]at h;obtain⟨u,us,rfl,h1,h2⟩:=h;simp only[List.cons_append,vX];exact⟨u,_,rfl,h1,YJ h2 k⟩
theorem WA:∀{cs:List SV} {vs:List Value},vs.length=cs.length->(∀(i:Nat) (c:SV),cs[i]?=some c->∃u,vs[i]?=some u/\Den K c u)->vX K cs vs
 | [],vs,hl,_=>by simp only[vX];exact zO.1 hl
 |c::cs,[],hl,_=>by simp at hl
 |c::cs,v::vs,hl,h=>by
  obtain⟨u,h1,h2⟩:=h 0 c rfl;simp at h1;subst h1;simp only[vX]
  exact⟨v,vs,rfl,h2,WA (by simpa using hl) fun i d hd=>by
   obtain⟨u,h3,h4⟩:=h (i+1) d (by simpa using hd)
   exact⟨u,by simpa using h3,h4⟩⟩
theorem qZ{J:Type}:∀{xs:List J} {n:Nat},Wa xs n=true<->xs.length=n
 | [],0=>by simp[Wa]
 | [],n+1=>by simp[Wa]
 |x::xs,0=>by simp[Wa]
 |x::xs,n+1=>by simp[Wa,qZ (xs:=xs) (n:=n)]
theorem Xw{K:Env}{es:Nat}:∀{rs:List (List SV)} {vs:List Value},uk K es rs vs->vX K rs.flatten vs
 | [],vs,h=>by simp only[uk]at h;subst h;simp[vX]
 |r::rs,vs,h=>by
  simp only[uk]at h;obtain⟨us,ws,rfl,_,h1,h2⟩:=h;simp only[List.flatten_cons];exact YJ h1 (Xw h2)
theorem Den.jg{K:Env}{v:SV}{u:Value}(h:Den K v u):Den K (jg v) u:=by
 cases v with
 |arr es rs=>
  simp only[Den]at h;obtain⟨vs,rfl,h1,h2⟩:=h;simp only[Sx.jg,Den];exact⟨vs,rfl,Xw h1,h2⟩
 |_=>exact h
theorem P4{K:Env}{ρ:Operand->Value}{lk:Operand->Option SV}(L:∀x sv,lk x=some sv->Den K sv (ρ x)){x:Operand}{k:SV}(h:Fi lk x=some k):Den K k (ρ x):=by
 unfold Fi at h;split at h
 .rename_i k' hk;injection h with h;subst h;exact(L _ _ hk).jg
 cases h
theorem Uf{sv:SV}{cs:List SV}{v:Value}(h:Den K sv v)(hc:cellsOf sv=some cs):vX K cs v.cells.toList/\∀u∈v.cells.toList,u.oneCell'=true:=by
 cases sv with
 |agg ds=>
  simp only[cellsOf,zh]at hc;subst hc;simp only[Den]at h;obtain⟨vs,rfl,h1,h2⟩:=h;exact⟨h1,h2⟩
 |arr _ _=>
  simp only[cellsOf,zh]at hc;subst hc;simp only[Den]at h;obtain⟨vs,rfl,h1,h2⟩:=h;exact⟨Xw h1,h2⟩
 |uI _=>simp[cellsOf]at hc
 |any=>simp[cellsOf]at hc
 |nb n=>simp[cellsOf]at hc
 |jQ l=>simp[cellsOf]at hc
 |yf b=>
  simp only[cellsOf,zh]at hc;subst hc;have h':=h;simp only[Den]at h;obtain⟨e,h1,rfl⟩:=h;simp only[Value.cells,vX];exact⟨⟨_,[],rfl,h',rfl⟩,by simp[Value.oneCell']⟩
 |bool b=>simp only[cellsOf,zh]at hc;subst hc;simp only[Den]at h;subst h;simp[vX,Den,Value.cells,Value.oneCell']
 |int k n=>simp only[cellsOf,zh]at hc;subst hc;simp only[Den]at h;subst h;simp[vX,Den,Value.cells,Value.oneCell']
 |str s=>simp only[cellsOf,zh]at hc;subst hc;simp only[Den]at h;subst h;simp[vX,Den,Value.cells,Value.oneCell']
 |val u=>
  simp only[cellsOf,zh]at hc;subst hc;have h':=h;simp only[Den]at h;obtain⟨rfl,h1⟩:=h;have hv:v.cells= #[v]:=by cases v<;>simp_all[Value.cells,Value.oneCell']
  rw[hv];simp only[vX];exact⟨⟨v,[],rfl,h',rfl⟩,by simpa using h1⟩
 |ptr b r es c=>
  simp only[cellsOf,zh]at hc;subst hc;have h':=h;simp only[Den]at h;obtain⟨e,h1,rfl⟩:=h;simp only[Value.cells,vX];exact⟨⟨_,[],rfl,h',rfl⟩,by simp[Value.oneCell']⟩
 |sl b r es len lim=>
  simp only[cellsOf,zh]at hc;subst hc;have h':=h;simp only[Den]at h;rcases h with⟨_,rfl,_⟩|⟨e,o,_,rfl,_⟩<;>simp only[Value.cells,vX]<;>exact⟨⟨_,[],rfl,h',rfl⟩,by simp[Value.oneCell']⟩
 |gR t x=>
  simp only[cellsOf,zh]at hc;subst hc;have h':=h;simp only[Den]at h;obtain⟨u,rfl,_⟩:=h;simp only[Value.cells,vX];exact⟨⟨_,[],rfl,h',rfl⟩,by simp[Value.oneCell']⟩
 |mp b=>
  simp only[cellsOf,zh]at hc;subst hc;have h':=h;simp only[Den]at h;obtain⟨e,_,rfl⟩:=h;simp only[Value.cells,vX];exact⟨⟨_,[],rfl,h',rfl⟩,by simp[Value.oneCell']⟩
 |fn f a b=>
  simp only[cellsOf,zh]at hc;subst hc;have h':=h;simp only[Den]at h;obtain⟨us,vs,rfl,_⟩:=h;simp only[Value.cells,vX];exact⟨⟨_,[],rfl,h',rfl⟩,by simp[Value.oneCell']⟩
end
def U7:Sh->Bool
 | .struct _| .array _ _=>true
 |_=>false
theorem D6{P:Program}{T:qg}(hT:ux P T){t:TypeId}(h:T.sh t≠ .other)(w:World):
 (isAgg t).run P w= .ok (U7 (T.sh t)) w:=by
 obtain⟨d,h1,h2⟩:=hT.qY t h;simp only[isAgg,Sem.run_bind,Z5 h1,Result.andThen_ok];cases hs:T.sh t<;>rw[hs]at h2<;>simp only[qV]at h2
 case array=>obtain⟨rfl,_⟩:=h2;rfl
 case struct=>obtain⟨fs,rfl,_⟩:=h2;rfl
 case iface=>obtain⟨ms,rfl⟩:=h2;rfl
 case func=>obtain⟨a,b,c,rfl⟩:=h2;rfl
 case plain=>cases d<;>first|exact h2.elim|rfl
 case other=>exact(h hs).elim
 all_goals (subst h2;rfl)
def eM(K:Env)(row:List SV)(us:List Value)(off:Nat):Prop:=∀(j:Nat) (sv:SV),row[j]?=some sv->∃u,us[off+j]?=some u/\Den K sv u
theorem eM.take{K:Env}{row:List SV}{us:List Value}{off n:Nat}(h:eM K row us off)(hn:n<=row.length):vX K (row.take n) ((us.drop off).take n):=by
 refine WA ?_ ?_
 .cases n with
  |zero=>simp
  |succ n=>
   obtain⟨u,hu,_⟩:=h n _ (z1 (by omega));have:=(zg.1 hu).1;simp;omega
 .intro i c hc;rw[y4]at hc;split at hc
  .obtain⟨u,hu,hd⟩:=h i c hc;refine⟨u,?_,hd⟩;rw[y4,z8 ‹_›,ye];exact hu
  cases hc
theorem eM.dL{K:Env}{row:List SV}{us:List Value}(h:vX K row us)(off:Nat):eM K (row.drop off) us off:=by
 intro j sv hj;rw[ye]at hj;exact Xo h hj
theorem D7{P:Program}{T:qg}(hT:ux P T){K:Env}{t:TypeId}{off cT:Nat}{row:List SV}{us:List Value}{v:SV}{O:u0}{nx:Nat}{O':u0}{vZ:Nat}(w:World)(hd:eM K (row.drop cT) us off)(h1:∀u∈us,u.oneCell'=true)
 (hr:(Wv T t cT row).ok O nx v O' vZ):O'=O/\vZ=nx/\∃u,(part t ⟨us⟩ off).run P w= .ok u w/\Den K v u:=by
 unfold Wv at hr;cases ht:o3 (T.size t) (row.drop cT)with
 |none=>rw[ht]at hr;exact hr.elim
 |some cs=>
  rw[ht]at hr;simp only at hr;obtain⟨rfl,hlen⟩:=Vk ht;have fu:=hd.take hlen;cases ho:Yu T t ((row.drop cT).take (T.size t))with
  |none=>rw[ho]at hr;exact hr.elim
  |some sv=>
   rw[ho]at hr;obtain⟨rfl,rfl,rfl⟩:=hr
   have hsh:T.sh t≠ .other:=by
    intro e;simp only[Yu,e]at ho;cases ho
   obtain⟨i,hi,hsz,_⟩:=hT.info t hsh;refine⟨rfl,rfl,?_⟩;have ag:=D6 hT hsh w
   have agg:(U7 (T.sh t))=true->v= .agg ((row.drop cT).take (T.size t))->∃u,(part t ⟨us⟩ off).run P w= .ok u w/\Den K v u:=by
    rintro hb rfl;rw[hb]at ag;refine⟨.agg ⟨(us.drop off).take (T.size t)⟩,?_,?_⟩;simp[part,ag,Zr hi,hsz,List.extract_eq_take_drop]
    .simp only[Den];exact⟨(us.drop off).take (T.size t),rfl,fu,fun u hu=>h1 u (vC (List.mem_of_mem_take hu))⟩
   have one:(U7 (T.sh t))=false->(row.drop cT).take (T.size t)=[v]->∃u,(part t ⟨us⟩ off).run P w= .ok u w/\Den K v u:=by
    intro hb hs;rw[hb]at ag;rw[hs]at fu;obtain⟨u,hu,eE⟩:=Xo (i:=0) fu rfl;rw[y4]at hu;split at hu
    .simp at hu;exact⟨u,by simp[part,ag,hu],eE⟩
    cases hu
   cases hs:T.sh t<;>rw[hs]at agg one<;>simp only[Yu,hs]at ho
   case struct=>simp only[zh]at ho;exact agg rfl ho.symm
   case array=>simp only[zh]at ho;exact agg rfl ho.symm
   case other=>cases ho
   all_goals
    split at ho
    .rename_i c hc;simp only[zh]at ho;subst ho;exact one rfl hc
    cases ho
theorem Ij{P:Program}{T:qg}(hT:ux P T){K:Env}{t:TypeId}{off:Nat}{row:List SV}{us:List Value}{v:SV}{O:u0}{nx:Nat}{O':u0}{vZ:Nat}(w:World)(hd:vX K row us)(h1:∀u∈us,u.oneCell'=true)
 (hr:(Wv T t off row).ok O nx v O' vZ):O'=O/\vZ=nx/\∃u,(part t ⟨us⟩ off).run P w= .ok u w/\Den K v u:=
 D7 hT w (eM.dL hd off) h1 hr
section
variable {M:Mx}{K:Env}{w:World}{O:u0}{nx:Nat}{ρ:Operand->Value}{lk:Operand->Option SV}{v:SV}{O':u0}{vZ:Nat}{dst:Option Tmp}{ty:TypeId}{pos:String}{af:Array Edge}{gd:Option (Nat×Bool)}
theorem Ik(A:At M K w O nx ρ lk)(x:Operand)(hr:(wj M.C lk O nx (.move x)).ok O nx v O' vZ):Y9 M K w ⟨dst, .move x,ty,pos,af,gd⟩ ρ v O' vZ:=by
 simp only[wj,Fk]at hr;cases hx:lk x with
 |none=>rw[hx]at hr;exact hr.elim
 |some u=>rw[hx]at hr;exact A.val hr ⟨ρ x, .inl rfl,A.L x _ hx⟩
theorem Il(A:At M K w O nx ρ lk)(x:Operand)(hr:(wj M.C lk O nx (.assign x)).ok O nx v O' vZ):Y9 M K w ⟨dst, .assign x,ty,pos,af,gd⟩ ρ v O' vZ:=by
 simp only[wj,Fk]at hr;cases hx:lk x with
 |none=>rw[hx]at hr;exact hr.elim
 |some u=>rw[hx]at hr;exact A.val hr ⟨ρ x, .inl rfl,A.L x _ hx⟩
theorem Im(A:At M K w O nx ρ lk)(c a b:Operand)(hr:(wj M.C lk O nx (.pick c a b)).ok O nx v O' vZ):Y9 M K w ⟨dst, .pick c a b,ty,pos,af,gd⟩ ρ v O' vZ:=by
 simp only[wj,AY]at hr;split at hr
 .rename_i x hc;split at hr
  .rename_i p q ha hb;refine A.val hr ⟨.bool (bif x then p else q), .inl ?_,rfl⟩;have h1:=YS (A.L _ _ hc);have h2:=YS (A.L _ _ ha);have h3:=YS (A.L _ _ hb);cases x<;>simp[execOp,h1,h2,h3,asBool]
  .rename_i p ha hb;obtain⟨hx,hr⟩:=hr;subst hx;refine A.val hr ⟨.bool p, .inl ?_,rfl⟩;have h1:=YS (A.L _ _ hc);have h2:=YS (A.L _ _ ha);simp[execOp,h1,h2,asBool]
  .rename_i p ha hb;obtain⟨hx,hr⟩:=hr;subst hx;refine A.val hr ⟨.bool p, .inl ?_,rfl⟩;have h1:=YS (A.L _ _ hc);have h2:=YS (A.L _ _ hb);simp[execOp,h1,h2,asBool]
  exact hr.elim
 exact hr.elim
theorem Io(A:At M K w O nx ρ lk)(x:Operand)(i:Nat)(hr:(wj M.C lk O nx (.extract x i)).ok O nx v O' vZ):Y9 M K w ⟨dst, .extract x i,ty,pos,af,gd⟩ ρ v O' vZ:=by
 simp only[wj,On]at hr;split at hr
 .rename_i vs hx;split at hr
  .rename_i z hz;have h1:=A.L _ _ hx;simp only[Den]at h1;obtain⟨us,h1,h2⟩:=h1;rw[V9]at hz;obtain⟨u,h3,h4⟩:=Xo h2 hz;refine A.val hr ⟨u, .inl ?_,h4⟩;simp[execOp,h1,Instr.extract,h3]
  exact hr.elim
 exact hr.elim
theorem Ip(A:At M K w O nx ρ lk)(t:TypeId)(x:Operand)(f:Nat)(hr:(wj M.C lk O nx (.field t x f)).ok O nx v O' vZ):Y9 M K w ⟨dst, .field t x f,ty,pos,af,gd⟩ ρ v O' vZ:=by
 simp only[wj,Oh]at hr;split at hr
 .rename_i cs hx;have h1:=A.L _ _ hx;simp only[Den]at h1;obtain⟨us,h1,h2,h3⟩:=h1;split at hr
  case h_2=>exact hr.elim
  rename_i off u hf;unfold Ff at hf;split at hf
  .rename_i fs hs;obtain⟨d,hd,j8⟩:=A.T.qY t (by rw[hs];simp);rw[hs]at j8;simp only[qV]at j8;obtain⟨fields,rfl,o8,_⟩:=j8;rw[V9,<-o8,z7]at hf;cases hq:fields.toList[f]? with
   |none=>rw[hq]at hf;cases hf
   |some fd=>
    rw[hq]at hf;simp only[Option.map_some,zh,yF]at hf;obtain⟨rfl,rfl⟩:=hf;obtain⟨e1,e2,z,h4,h5⟩:=Ij A.T w h2 h3 hr;refine A.same (.inl ?_) h5 e1 e2;have r8:fields[f]?=some fd:=by simpa using hq
    simp[execOp,h1,Instr.field,Z5 hd,r8,asAgg,h4]
  cases hf
 exact hr.elim
theorem Iq(A:At M K w O nx ρ lk)(x:Operand)(hr:(wj M.C lk O nx (.nilCheck x)).ok O nx v O' vZ):Y9 M K w ⟨dst, .nilCheck x,ty,pos,af,gd⟩ ρ v O' vZ:=by
 simp only[wj,O7]at hr;split at hr
 .rename_i b r es c hx;have h1:=A.L _ _ hx;refine A.val hr ⟨ρ x, .inl ?_,h1⟩;simp only[Den]at h1;obtain⟨e,_,h2⟩:=h1;simp[execOp,h2]
 exact hr.elim
theorem Ir(A:At M K w O nx ρ lk)(op:UnOp)(t:TypeId)(x:Operand)(hr:(wj M.C lk O nx (.unOp op t x)).ok O nx v O' vZ):Y9 M K w ⟨dst, .unOp op t x,ty,pos,af,gd⟩ ρ v O' vZ:=by
 simp only[wj,O8]at hr;split at hr
 .split at hr
  .rename_i b hx;have h1:=YS (A.L _ _ hx);exact A.val hr ⟨.bool (!b), .inl (by simp[execOp,h1,Op.unary]),rfl⟩
  exact hr.elim
 .split at hr
  .rename_i k n hx;have h1:=Jz (A.L _ _ hx);exact A.val hr ⟨.int k (k.wrap (0-n)), .inl (by simp[execOp,h1,Op.unary,Op.intArith]),rfl⟩
  exact hr.elim
 .split at hr
  .rename_i k n hx;have h1:=Jz (A.L _ _ hx);refine A.val hr ⟨.int k (oS k (bif k.signed then-1 else k.max) n), .inl ?_,rfl⟩;cases hk:k.signed<;>simp[execOp,h1,Op.unary,Op.intBits,oS,hk]
  exact hr.elim
 exact hr.elim
theorem Is(A:At M K w O nx ρ lk)(t:TypeId)(x:Operand)(hr:(wj M.C lk O nx (.makeInterface t x)).ok O nx v O' vZ):Y9 M K w ⟨dst, .makeInterface t x,ty,pos,af,gd⟩ ρ v O' vZ:=by
 simp only[wj,Oa]at hr;split at hr
 exact hr.elim;exact hr.elim
 .rename_i sh hi ho;split at hr
  case h_2=>exact hr.elim
  rename_i u hx;refine A.val hr ⟨.iface t (ρ x), .inl ?_,?_⟩
  .obtain⟨d,h1,h2⟩:=A.T.qY t ho
   have:(Instr.makeInterface t (ρ x)).run M.P w= .ok (.iface t (ρ x)) w:=by
    simp only[Instr.makeInterface,Sem.run_bind,Z5 h1,Result.andThen_ok];cases d with
    |interface ms=>
     exfalso;cases hs:M.C.T.sh t<;>rw[hs]at h2<;>simp only[qV]at h2<;>simp_all
    |_=>rfl
   simp[execOp,this]
  simp only[Den];exact⟨_,rfl,A.L _ _ hx⟩
theorem D8{xs:List Operand}{eN:List SV}(hl:∀x sv,lk x=some sv->Den K sv (ρ x))(h:qK lk xs=some eN):vX K eN (xs.map ρ):=by
 induction xs generalizing eN with
 |nil=>simp only[qK,zh]at h;subst h;simp[vX]
 |cons x xs ih=>
  simp only[qK]at h;split at h
  .rename_i y hy;split at h
   .rename_i ys hys;simp only[zh]at h;subst h;simp only[zL,vX];exact⟨_,_,rfl,hl _ _ hy,ih hys⟩
   cases h
  cases h
theorem It(A:At M K w O nx ρ lk)(f:Fn)(a b:Array Operand)(hr:(wj M.C lk O nx (.makeFunc f a b)).ok O nx v O' vZ):Y9 M K w ⟨dst, .makeFunc f a b,ty,pos,af,gd⟩ ρ v O' vZ:=by
 simp only[wj,Ob]at hr;split at hr
 .rename_i xs h1;split at hr
  case h_2=>exact hr.elim
  rename_i ys h2;refine A.val hr ⟨.func f (a.map ρ) (b.map ρ), .inl rfl,?_⟩;simp only[Den];exact⟨a.toList.map ρ,b.toList.map ρ,by congr 1<;>(apply yC;simp),D8 A.L h1,D8 A.L h2⟩
 exact hr.elim
end
theorem Iu{z:Value}(h:z.oneCell'=true):z.cells= #[z]:=by cases z<;>first|rfl|(simp[Value.oneCell']at h)
section
variable {K:Env}
theorem JA{es:Nat}:∀{n:Nat} {cs:List SV} {rs:List (List SV)},Jm es n cs=some rs->rs.length=n/\cs.length=n*es/\∀(i:Nat) (row:List SV),rs[i]?=some row->row.length=es/\row=(cs.drop (i*es)).take es
 |0,[],rs,h=>by simp only[Jm,zh]at h;subst h;simp
 |0,c::cs,rs,h=>by simp[Jm]at h
 |n+1,cs,rs,h=>by
  simp only[Jm]at h;cases h1:o3 es cs with
  |none=>rw[h1]at h;cases h
  |some r=>
   rw[h1]at h;simp only at h;cases h2:Jm es n (cs.drop es)with
   |none=>rw[h2]at h;cases h
   |some q=>
    rw[h2]at h;simp only[zh]at h;subst h;obtain⟨rfl,hl⟩:=Vk h1;obtain⟨h3,h4,h5⟩:=JA h2;refine⟨by simp[h3],?_,?_⟩
    .rw[zW]at h4;rw[yB];omega
    .intro i row hi;cases i with
     |zero=>simp at hi;subst hi;simp[xN hl]
     |succ i=>
      simp at hi;obtain⟨h6,h7⟩:=h5 i row hi;refine⟨h6,?_⟩;rw[h7,x4];congr 2;rw[yB];omega
theorem D9{es:Nat}:∀{rs:List (List SV)} {vs:List Value} {i:Nat} {row:List SV},uk K es rs vs->rs[i]?=some row->eM K row vs (i*es)/\row.length=es
 | [],vs,i,row,h,hi=>by simp at hi
 |r::rs,vs,i,row,h,hi=>by
  simp only[uk]at h;obtain⟨us,ws,rfl,hl,h1,h2⟩:=h;cases i with
  |zero=>
   simp at hi;subst hi;refine⟨fun j sv hj=>?_,by rw[<-ZL h1,hl]⟩;obtain⟨u,hu,hd⟩:=Xo h1 hj;refine⟨u,?_,hd⟩;rw[yQ,zw,zu (zg.1 hu).1];exact hu
  |succ i=>
   simp at hi;obtain⟨h3,h4⟩:=D9 h2 hi;refine⟨fun j sv hj=>?_,h4⟩;obtain⟨u,hu,hd⟩:=h3 j sv hj;refine⟨u,?_,hd⟩;rw[zz (by rw[yB];omega),hl];rw[show(i+1)*es+j-es=i*es+j by rw[yB];omega];exact hu
theorem JB{es:Nat}:∀{rs:List (List SV)} {vs:List Value},uk K es rs vs->vs.length=rs.length*es
 | [],vs,h=>by simp only[uk]at h;subst h;simp
 |r::rs,vs,h=>by
  simp only[uk]at h;obtain⟨us,ws,rfl,hl,h1,h2⟩:=h;rw[ze,hl,JB h2,List.length_cons,yB];omega
theorem Iv{es n:Nat}{cs:List SV}{rs:List (List SV)}{vs:List Value}(h:Jm es n cs=some rs)(hd:vX K cs vs){i:Nat}{row:List SV}(hi:rs[i]?=some row):eM K row vs (i*es):=by
 obtain⟨h1,h2,h3⟩:=JA h;obtain⟨h4,h5⟩:=h3 i row hi;intro j sv hj;rw[h5,y4]at hj;split at hj
 rw[ye]at hj;exact Xo hd hj;cases hj
theorem Da{es n:Nat}{cs:List SV}{rs:List (List SV)}{vs:List Value}(h:Jm es n cs=some rs)(hd:vX K cs vs):uk K es rs vs:=by
 induction n generalizing cs rs vs with
 |zero=>
  cases cs with
  |nil=>simp only[Jm,zh]at h;subst h;simpa[uk,vX]using hd
  |cons c cs=>simp[Jm]at h
 |succ n ih=>
  simp only[Jm]at h;cases h1:o3 es cs with
  |none=>rw[h1]at h;cases h
  |some r=>
   rw[h1]at h;simp only at h;cases h2:Jm es n (cs.drop es)with
   |none=>rw[h2]at h;cases h
   |some q=>
    rw[h2]at h;simp only[zh]at h;subst h;obtain⟨rfl,hl⟩:=Vk h1;have hv:=ZL hd;simp only[uk];exact⟨vs.take es,vs.drop es,(xd es vs).symm,by rw[zA,hv];omega,D5 hd,ih h2 (D4 hd)⟩
theorem WB{P:Program}{T:qg}(hT:ux P T){t:TypeId}{sv:SV}(hs:T.sh t≠ .other)(hz:T.zero t≠ [])(ho:Yu T t (T.zero t)=some sv)(K:Env):∃i z,P.info? t=some i/\i.zero=some z/\Den K sv z:=by
 obtain⟨i,z,h1,h2,h3,h4,h5,h6,h7,h8⟩:=hT.zero t hs hz;refine⟨i,z,h1,h2,?_⟩;have h3:=vX.mono (η':=K) xq h3
 have agg:((∃fs,T.sh t= .struct fs)\/(∃n e,T.sh t= .array n e))->sv= .agg (T.zero t)->Den K sv z:=by
  rintro hh rfl;rw[h7 hh];simp only[Den];exact⟨z.cells.toList,by simp,h3,h4⟩
 have one:¬((∃fs,T.sh t= .struct fs)\/(∃n e,T.sh t= .array n e))->T.zero t=[sv]->Den K sv z:=by
  intro hh hq;have:=h8 hh;have hv:z.cells= #[z]:=Iu this;rw[hq,hv]at h3;simp only[vX]at h3;obtain⟨u,us,he,hd,_⟩:=h3;simp at he;rw[he.1];exact hd
 cases hh:T.sh t<;>rw[hh]at agg one<;>simp only[Yu,hh]at ho
 case struct=>simp only[zh]at ho;exact agg (.inl ⟨_,rfl⟩) ho.symm
 case array=>simp only[zh]at ho;exact agg (.inr ⟨_,_,rfl⟩) ho.symm
 case other=>cases ho
 all_goals
  split at ho
  .rename_i c hc;simp only[zh]at ho;subst ho;exact one (by simp) hc
  cases ho
end
section
variable {M:Mx}{K:Env}{w:World}{O:u0}{nx:Nat}{ρ:Operand->Value}{lk:Operand->Option SV}{v:SV}{O':u0}{vZ:Nat}{dst:Option Tmp}{ty:TypeId}{pos:String}{af:Array Edge}{gd:Option (Nat×Bool)}
theorem Iw(A:At M K w O nx ρ lk)(t:TypeId)(x i:Operand)(hr:(wj M.C lk O nx (.index t x i)).ok O nx v O' vZ):Y9 M K w ⟨dst, .index t x i,ty,pos,af,gd⟩ ρ v O' vZ:=by
 simp only[wj,Oj]at hr;split at hr
 case h_2=>exact hr.elim
 rename_i k n hi;have hiv:=Jz (A.L _ _ hi);split at hr
 .rename_i hs;obtain⟨d,hd,hm⟩:=A.T.qY t (by rw[hs];simp);rw[hs]at hm;simp only[qV]at hm;subst hm;split at hr
  case h_2=>exact hr.elim
  rename_i s hx;have uu:=r7 (A.L _ _ hx);obtain⟨⟨h0,h1⟩,h2⟩:=hr;refine A.val h2 ⟨.int .u8 (Zm s n), .inl ?_,rfl⟩;have hlt:n.toNat<s.length:=by omega
  have hg:(ByteArray.mk s.toArray)[n.toNat]?=some s[n.toNat]:=by
   show(if h:_ then _ else _)=_
   rw[yx (show n.toNat< (ByteArray.mk s.toArray).size by simpa[ByteArray.size]using hlt)]
   rfl
  simp[execOp,uu,hiv,Instr.index,asIntOf,Z5 hd,h0,hg,Zm,hlt]
 .rename_i m e hs;obtain⟨d,hd,hm⟩:=A.T.qY t (by rw[hs];simp);rw[hs]at hm;simp only[qV]at hm;obtain⟨rfl,hsz,eO⟩:=hm;obtain⟨ie,hie,uV,_⟩:=A.T.info e eO;split at hr
  .rename_i cs hx;have uu:=A.L _ _ hx;simp only[Den]at uu;obtain⟨us,uu,hdl,h1⟩:=uu;split at hr
   case h_2=>exact hr.elim
   rename_i rs hch;obtain⟨⟨h0,hlt⟩,row,hrow,hr⟩:=hr;have hf:=Iv hch hdl hrow;obtain⟨e1,e2,u,hu,eE⟩:=D7 A.T w (cT:=0) (by simpa using hf) h1 hr;refine A.same (.inl ?_) eE e1 e2;simp[execOp,uu,hiv,Instr.index,asIntOf,Z5 hd,h0,hlt,Zr hie,uV,hu]
  .rename_i es rs hx;have uu:=A.L _ _ hx;simp only[Den]at uu;obtain⟨us,uu,hdl,h1⟩:=uu;split at hr
   case h_2=>exact hr.elim
   rename_i wT;have wT:=Zq wT;subst wT;obtain⟨⟨h0,hlt,hlen⟩,row,hrow,hr⟩:=hr;have hf:=(D9 hdl hrow).1;obtain⟨e1,e2,u,hu,eE⟩:=D7 A.T w (cT:=0) (by simpa using hf) h1 hr;refine A.same (.inl ?_) eE e1 e2;simp[execOp,uu,hiv,Instr.index,asIntOf,Z5 hd,h0,hlt,Zr hie,uV,hu]
  exact hr.elim
 exact hr.elim
theorem Iy(A:At M K w O nx ρ lk)(t:TypeId)(x i:Operand)(hr:(wj M.C lk O nx (.indexAddr t x i)).ok O nx v O' vZ):Y9 M K w ⟨dst, .indexAddr t x i,ty,pos,af,gd⟩ ρ v O' vZ:=by
 simp only[wj,Oi]at hr;split at hr
 case h_2=>exact hr.elim
 rename_i k n hi;have hiv:=Jz (A.L _ _ hi);split at hr
 .rename_i m e hs;obtain⟨d,hd,hm⟩:=A.T.qY t (by rw[hs];simp);rw[hs]at hm;simp only[qV]at hm;obtain⟨rfl,hsz,eO⟩:=hm;obtain⟨ie,hie,uV,_⟩:=A.T.info e eO;split at hr
  case h_2=>exact hr.elim
  rename_i b r es c hx;have uu:=A.L _ _ hx;simp only[Den]at uu;obtain⟨en,hb,uu⟩:=uu;split at hr
  .rename_i wT;have wT:=Zq wT;subst wT;obtain⟨⟨rfl,rfl,h0,hlt⟩,h2⟩:=hr;refine A.val h2 ⟨.pointer (some ⟨en.g,en.base+n.toNat*M.C.T.size e,none⟩), .inl ?_,?_⟩
   .have:(⟨en.g,en.base,none⟩:Addr).add (n.toNat*M.C.T.size e)=⟨en.g,en.base+n.toNat*M.C.T.size e,none⟩:=Addr.add_lit _ _ _;simp[execOp,uu,hiv,Instr.indexAt,asIntOf,Instr.sureAddr,Z5 hd,h0,hlt,Zr hie,uV,this]
   simp only[Den];exact⟨en,hb,by simp⟩
  .split at hr
   .obtain⟨⟨rfl,_,h0,hlt⟩,h2⟩:=hr;refine A.val h2 ⟨.pointer (some ⟨en.g,en.base+n.toNat*M.C.T.size e,none⟩), .inl ?_,?_⟩
    .have:(⟨en.g,en.base,none⟩:Addr).add (n.toNat*M.C.T.size e)=⟨en.g,en.base+n.toNat*M.C.T.size e,none⟩:=Addr.add_lit _ _ _;simp[execOp,uu,hiv,Instr.indexAt,asIntOf,Instr.sureAddr,Z5 hd,h0,hlt,Zr hie,uV,this]
    simp only[Den];exact⟨en,hb,by simp⟩
   .rename_i c';obtain⟨⟨h0,hlt⟩,h2⟩:=hr;refine A.val h2 ⟨.pointer (some ⟨en.g,en.base+(r*es+(c'+1))+n.toNat*M.C.T.size e,none⟩), .inl ?_,?_⟩
    .have:(⟨en.g,en.base+(r*es+(c'+1)),none⟩:Addr).add (n.toNat*M.C.T.size e)=⟨en.g,en.base+(r*es+(c'+1))+n.toNat*M.C.T.size e,none⟩:=Addr.add_lit _ _ _;simp[execOp,uu,hiv,Instr.indexAt,asIntOf,Instr.sureAddr,Z5 hd,h0,hlt,Zr hie,uV,this]
    simp only[Den];exact⟨en,hb,by simp only[xx]⟩
 .rename_i e hs;obtain⟨d,hd,hm⟩:=A.T.qY t (by rw[hs];simp);rw[hs]at hm;simp only[qV]at hm;subst hm;split at hr
  case h_2=>exact hr.elim
  rename_i b r es len lim hx;have uu:=A.L _ _ hx;simp only[Den]at uu;split at hr
  case h_2=>exact hr.elim
  rename_i wT hok;have wT:=Zq wT;subst wT;have eO:M.C.T.sh e≠ .other:=by intro h;simp[kf,h]at hok
  obtain⟨ie,hie,uV,_⟩:=A.T.info e eO;obtain⟨⟨h0,hlt⟩,h2⟩:=hr;rcases uu with⟨_,_,h⟩|⟨en,o,hb,uu,h3,h4,h5⟩
  subst h;omega;refine A.val h2 ⟨.pointer (some ⟨en.g,en.base+(r+n.toNat)*M.C.T.size e,none⟩), .inl ?_,?_⟩
  .have ho:=h5 (by omega)
   have:(⟨en.g,o,none⟩:Addr).add (n.toNat*M.C.T.size e)=⟨en.g,en.base+(r+n.toNat)*M.C.T.size e,none⟩:=by
    rw[Addr.add_lit,ho,xB];congr 1;omega
   simp[execOp,uu,hiv,Instr.indexAt,asIntOf,Z5 hd,h0,hlt,Zr hie,uV,this]
  simp only[Den];exact⟨en,hb,by simp⟩
 exact hr.elim
theorem Iz(A:At M K w O nx ρ lk)(t:TypeId)(x:Operand)(f:Nat)(hr:(wj M.C lk O nx (.fieldAddr t x f)).ok O nx v O' vZ):Y9 M K w ⟨dst, .fieldAddr t x f,ty,pos,af,gd⟩ ρ v O' vZ:=by
 simp only[wj,Og]at hr;split at hr
 case h_2=>exact hr.elim
 rename_i b r es c hx;have uu:=A.L _ _ hx;simp only[Den]at uu;obtain⟨en,hb,uu⟩:=uu;split at hr
 case h_2=>exact hr.elim
 rename_i off u hf;unfold Ff at hf;split at hf
 case h_2=>cases hf
 rename_i fs hs;obtain⟨d,hd,j8⟩:=A.T.qY t (by rw[hs];simp);rw[hs]at j8;simp only[qV]at j8;obtain⟨fields,rfl,o8,hok⟩:=j8;have hmem:(off,u)∈fs:=by rw[V9]at hf;exact y8 hf
 have IA:=hok _ hmem;obtain⟨iu,hiu,Db,_⟩:=A.T.info u IA;rw[V9,<-o8,z7]at hf;cases hq:fields.toList[f]? with
 |none=>rw[hq]at hf;cases hf
 |some fd=>
  rw[hq]at hf;simp only[Option.map_some,zh,yF]at hf;obtain⟨rfl,rfl⟩:=hf;split at hr
  exact hr.elim;rename_i hz;have hz:=Jb hz;refine A.val hr ⟨.pointer (some ⟨en.g,en.base+(r*es+(c+fd.offset)),none⟩), .inl ?_,?_⟩
  .have r8:fields[f]?=some fd:=by simpa using hq
   have:(⟨en.g,en.base+(r*es+c),none⟩:Addr).add fd.offset=⟨en.g,en.base+(r*es+(c+fd.offset)),none⟩:=by
    rw[Addr.add_lit];congr 1;omega
   simp[execOp,uu,Instr.fieldAt,Instr.sureAddr,Z5 hd,r8,fieldPlace,Zr hiu,Db,hz,this]
  simp only[Den];exact⟨en,hb,rfl⟩
theorem IB(A:At M K w O nx ρ lk)(x:Operand)(t u:TypeId)(ok:Bool)(hr:(wj M.C lk O nx (.typeAssert x t u ok)).ok O nx v O' vZ):Y9 M K w ⟨dst, .typeAssert x t u ok,ty,pos,af,gd⟩ ρ v O' vZ:=by
 simp only[wj,Oo]at hr;split at hr
 exact hr.elim;exact hr.elim;rename_i sh hni hno;obtain⟨d,hd,hm⟩:=A.T.qY u hno
 have hnd:∀ms,d≠ .interface ms:=by
  rintro ms rfl;cases hs:M.C.T.sh u<;>rw[hs]at hm<;>simp only[qV]at hm<;>simp_all
 have zt:∀{v},(Fp M.C.T u).ok O nx v O' vZ->ok=true->O'=O/\vZ=nx/\∃z,(zeroValue u).run M.P w= .ok z w/\Den K v (.tuple #[z, .bool false]):=by
  intro v hr _;unfold Fp at hr;cases hz:M.C.T.zero u with
  |nil=>rw[hz]at hr;exact hr.elim
  |cons c cs=>
   rw[hz]at hr;simp only at hr;cases ho:Yu M.C.T u (c::cs)with
   |none=>rw[ho]at hr;exact hr.elim
   |some sv=>
    rw[ho]at hr;obtain⟨rfl,rfl,rfl⟩:=hr;obtain⟨i,z,h1,h2,h3⟩:=WB A.T hno (by rw[hz];simp) (by rw[hz];exact ho) K;exact⟨rfl,rfl,z,XH h1 h2 w,by simp only[Den,vX];exact⟨_,rfl,z,_,rfl,h3,_,_,rfl,rfl,rfl⟩⟩
 split at hr
 .rename_i q y hx;have uu:=A.L _ _ hx;simp only[Den]at uu;obtain⟨z,uu,hz⟩:=uu
  have run:(Instr.typeAssert (.iface q z) t u ok).run M.P w=if q=u then .ok (if ok then .tuple #[z, .bool true]else z) w else(if ok then((zeroValue u).run M.P w).andThen fun a w=> .ok (.tuple #[a, .bool false]) w else(runtimePanic (.typeAssertion (some t) (some q) u ""):Sem Value).run M.P w):=by
   simp only[Instr.typeAssert,Sem.run_bind,Z5 hd,Result.andThen_ok];cases d<;>first|(exact absurd rfl (hnd _))|(cases ok<;>by_cases e:q=u<;>simp[e])
  split at hr
  .rename_i he;have he:=Zq he;subst he;split at hr
   .refine A.val hr ⟨.tuple #[z, .bool true], .inl ?_,?_⟩;simp[execOp,uu,run];simp only[Den,vX];exact⟨_,rfl,z,_,rfl,hz,_,_,rfl,rfl,rfl⟩
   .refine A.val hr ⟨z, .inl ?_,hz⟩;simp[execOp,uu,run]
  .rename_i he;have he:=Jb he;split at hr
   .obtain⟨e1,e2,a,h1,h2⟩:=zt hr rfl;refine A.same (.inl ?_) h2 e1 e2;simp[execOp,uu,run,he,h1]
   exact hr.elim
 .rename_i hx;have uu:=A.L _ _ hx;simp only[Den]at uu;obtain⟨uu,_⟩:=uu;split at hr
  .obtain⟨e1,e2,a,h1,h2⟩:=zt hr rfl;refine A.same (.inl ?_) h2 e1 e2
   have:(Instr.typeAssert .nilIface t u true).run M.P w= .ok (.tuple #[a, .bool false]) w:=by
    simp only[Instr.typeAssert,Sem.run_bind,Z5 hd,Result.andThen_ok];cases d<;>first|(exact absurd rfl (hnd _))|simp[h1]
   simp[execOp,uu,this]
  exact hr.elim
 exact hr.elim
end
theorem Vl(s:List UInt8)(a b:Nat):(ByteArray.mk s.toArray).extract a b=⟨((s.drop a).take (b-a)).toArray⟩:=by
 apply ByteArray.ext;simp[List.extract_eq_take_drop]
theorem Va(s:List UInt8):(ByteArray.mk s.toArray).size=s.length:=by simp[ByteArray.size]
section
variable {M:Mx}{K:Env}{w:World}{O:u0}{nx:Nat}{ρ:Operand->Value}{lk:Operand->Option SV}{v:SV}{O':u0}{vZ:Nat}{dst:Option Tmp}{ty:TypeId}{pos:String}{af:Array Edge}{gd:Option (Nat×Bool)}
theorem IC{P:Program}{T:qg}(hT:ux P T){t:TypeId}{op:BinOp}{x y:Operand}{u:SV}{wv a b:Value}{r:Bool}(d:Nat)(h:EP (T.sh t) y u wv=some r)(ha:Den K u a)(hb:b=wv)(w:World):
 (eqGuard op t x y a b).run P w= .ok () w/\(Op.equalIn (d+1) t a b).run P w= .ok r w/\(binOp .eql t a b=(do pure (.bool (<-Op.equal t a b))))/\(binOp .neq t a b=(do pure (.bool (!(<-Op.equal t a b))))):=by
 subst hb;unfold EP at h;split at h
 case h_7=>cases h
 all_goals
  rename_i hs;obtain⟨dd,hd,hm⟩:=hT.qY t (by rw[hs];simp);rw[hs]at hm;simp only[qV]at hm;simp only[zh]at h;subst h;simp only[Den]at ha
 .obtain⟨ms,rfl⟩:=hm;obtain⟨z,rfl,_⟩:=ha;refine⟨by cases op<;>simp[eqGuard],?_,rfl,rfl⟩;simp[Op.equalIn,Z5 hd]
 .obtain⟨ms,rfl⟩:=hm;obtain⟨rfl,_⟩:=ha;refine⟨by cases op<;>simp[eqGuard],?_,rfl,rfl⟩;simp[Op.equalIn,Z5 hd]
 .subst hm;obtain⟨e,_,rfl⟩:=ha;refine⟨by cases op<;>simp[eqGuard],?_,rfl,rfl⟩;simp[Op.equalIn,Z5 hd]
 .subst hm;obtain⟨rfl,_⟩:=ha;refine⟨by cases op<;>simp[eqGuard],?_,rfl,rfl⟩;simp[Op.equalIn,Z5 hd]
 .obtain⟨_,_,_,rfl⟩:=hm;obtain⟨_,_,rfl,_⟩:=ha;refine⟨by cases op<;>simp[eqGuard],?_,rfl,rfl⟩;simp[Op.equalIn,Z5 hd]
 .obtain⟨_,_,_,rfl⟩:=hm;obtain⟨rfl,_⟩:=ha;refine⟨by cases op<;>simp[eqGuard],?_,rfl,rfl⟩;simp[Op.equalIn,Z5 hd]
theorem Dc(A:At M K w O nx ρ lk){op:BinOp}{t u:TypeId}{x y:Operand}{ks:List CK}(hfl:M.C.T.flat t=some ks){xs ys:List SV}{us vs:List Value}(hx:ρ x= .agg ⟨us⟩)(hy:ρ y= .agg ⟨vs⟩)(kU:vX K xs us)(hd2:vX K ys vs)
 (hr:(QU ks op xs ys).ok O nx v O' vZ):Y9 M K w ⟨dst, .binOp op t x y u,ty,pos,af,gd⟩ ρ v O' vZ:=by
 obtain⟨g1,g2⟩:=A.T.flat t ks hfl;have go:∀r,Zi ks xs ys=some r->Fo ks xs ys=r/\(Op.equalIn 10000 t (.agg ⟨us⟩) (.agg ⟨vs⟩)).run M.P w= .ok r w:=fun r hce=>⟨by simp[Fo,hce],g2 w K xs ys us vs r hce kU hd2⟩;unfold QU at hr;split at hr
 .obtain⟨hn,hr⟩:=hr;obtain⟨r,hce⟩:=vI.1 hn;obtain⟨e,h⟩:=go r hce;rw[e]at hr;refine A.val hr ⟨.bool r, .inl ?_,rfl⟩;simp only[execOp,hx,hy,Sem.run_bind,run_eqGuard_agg w _ t x y ⟨us⟩ ⟨vs⟩ g1,Result.andThen_ok,run_eql_struct,h,Sem.run_pure]
 .obtain⟨hn,hr⟩:=hr;obtain⟨r,hce⟩:=vI.1 hn;obtain⟨e,h⟩:=go r hce;rw[e]at hr;refine A.val hr ⟨.bool (!r), .inl ?_,rfl⟩;simp only[execOp,hx,hy,Sem.run_bind,run_eqGuard_agg w _ t x y ⟨us⟩ ⟨vs⟩ g1,Result.andThen_ok,run_neq_struct,h,Sem.run_pure]
 exact hr.elim
theorem ID(A:At M K w O nx ρ lk)(op:BinOp)(t u:TypeId)(x y:Operand)(hr:(wj M.C lk O nx (.binOp op t x y u)).ok O nx v O' vZ):Y9 M K w ⟨dst, .binOp op t x y u,ty,pos,af,gd⟩ ρ v O' vZ:=by
 simp only[wj,QV]at hr;split at hr
 .rename_i k a hx;split at hr
  case h_2=>exact hr.elim
  rename_i k' b hy;obtain⟨e1,e2,z,h1,h2⟩:=Ih (P:=M.P) (w:=w) ρ dst ty pos af gd t u x y k' K (Jz (A.L _ _ hx)) (Jz (A.L _ _ hy)) hr;exact A.same (.inl h1) h2 e1 e2
 .rename_i a hx;split at hr
  case h_2=>exact hr.elim
  rename_i b hy;obtain⟨e1,e2,z,h1,h2⟩:=Ii (P:=M.P) (w:=w) ρ dst ty pos af gd t u x y K (r7 (A.L _ _ hx)) (r7 (A.L _ _ hy)) hr;exact A.same (.inl h1) h2 e1 e2
 .rename_i a hx;split at hr
  case h_2=>exact hr.elim
  rename_i b hy;have uu:=YS (A.L _ _ hx);have qC:=YS (A.L _ _ hy);split at hr
  case h_2=>exact hr.elim
  rename_i hs;obtain⟨d,hd,hm⟩:=A.T.qY t (by rw[hs];simp);rw[hs]at hm;simp only[qV]at hm;subst hm;have e1:∀d,(Op.equalIn (d+1) t (.bool a) (.bool b)).run M.P w= .ok (a==b) w:=fun d=>by simp[Op.equalIn,Z5 hd]
  have e2:=e1 9999;split at hr
  .refine A.val hr ⟨.bool (a==b), .inl ?_,rfl⟩;simp[execOp,uu,qC,eqGuard_at_bool,binOp,Op.equal,Op.maxDepth,e2]
  .refine A.val hr ⟨.bool (a !=b), .inl ?_,rfl⟩;simp[execOp,uu,qC,eqGuard_at_bool,binOp,Op.equal,Op.maxDepth,e2,bne]
  exact hr.elim
 .rename_i xs hx;have uu:=A.L _ _ hx;simp only[Den]at uu;obtain⟨us,uu,kU,_⟩:=uu;split at hr
  case h_3=>exact hr.elim
  .rename_i ys hy;split at hr
   case h_2=>exact hr.elim
   rename_i ks hfl;split at hr
   case h_2=>exact hr.elim
   rename_i r hce;have qC:=A.L _ _ hy;simp only[Den]at qC;obtain⟨vs,qC,hd2,_⟩:=qC;obtain⟨g1,g2⟩:=A.T.flat t ks hfl;have g2:=g2 w K xs ys us vs r hce kU hd2;split at hr
   .refine A.val hr ⟨.bool r, .inl ?_,rfl⟩;simp only[execOp,uu,qC,Sem.run_bind,run_eqGuard_agg w _ t x y ⟨us⟩ ⟨vs⟩ g1,Result.andThen_ok,run_eql_struct,g2,Sem.run_pure]
   .refine A.val hr ⟨.bool (!r), .inl ?_,rfl⟩;simp only[execOp,uu,qC,Sem.run_bind,run_eqGuard_agg w _ t x y ⟨us⟩ ⟨vs⟩ g1,Result.andThen_ok,run_neq_struct,g2,Sem.run_pure]
   exact hr.elim
  .rename_i es rs hy;split at hr
   case h_2=>exact hr.elim
   rename_i ks hfl;have qC:=A.L _ _ hy;simp only[Den]at qC;obtain⟨vs,qC,hd2,_⟩:=qC;exact Dc A hfl uu qC kU (Xw hd2) hr
 .rename_i es rs hx;have uu:=A.L _ _ hx;simp only[Den]at uu;obtain⟨us,uu,kU,_⟩:=uu;split at hr
  case h_3=>exact hr.elim
  .rename_i ys hy;split at hr
   case h_2=>exact hr.elim
   rename_i ks hfl;have qC:=A.L _ _ hy;simp only[Den]at qC;obtain⟨vs,qC,hd2,_⟩:=qC;exact Dc A hfl uu qC (Xw kU) hd2 hr
  .rename_i es' qs hy;split at hr
   case h_2=>exact hr.elim
   rename_i ks hfl;have qC:=A.L _ _ hy;simp only[Den]at qC;obtain⟨vs,qC,hd2,_⟩:=qC;exact Dc A hfl uu qC (Xw kU) (Xw hd2) hr
 .rename_i b r es len lim hx;split at hr
  case h_2=>exact hr.elim
  rename_i hy;have qC:=A.L _ _ hy;simp only[Den]at qC;obtain⟨qC,_⟩:=qC;split at hr
  case h_2=>exact hr.elim
  rename_i e hs;obtain⟨d,hd,hm⟩:=A.T.qY t (by rw[hs];simp);rw[hs]at hm;simp only[qV]at hm;subst hm;have uu:=A.L _ _ hx;simp only[Den]at uu
  obtain⟨a,l,c,uu,hl⟩:∃a l c,ρ x= .slice a l c/\(a.isNone=true->len=0):=by
   rcases uu with⟨_,h,h0⟩|⟨_,_,_,h,_⟩
   exact⟨_,_,_,h,fun _=>h0⟩;exact⟨_,_,_,h,fun h=>by cases h⟩
  have e1:∀d,(Op.equalIn (d+1) t (.slice a l c) (.slice none 0 0)).run M.P w= .ok a.isNone w:=fun d=>by cases a<;>simp[Op.equalIn,Z5 hd]
  have e2:=e1 9999;split at hr
  .refine A.val hr ⟨.bool a.isNone, .inl ?_,?_⟩;simp[execOp,uu,qC,eqGuard,binOp,Op.equal,Op.maxDepth,e2];simp only[Den];exact⟨_,rfl,hl⟩
  .obtain⟨hn,hr⟩:=hr
   have:a.isNone=false:=by
    cases h:a.isNone
    rfl
    have:=hl h;omega
   refine A.val hr ⟨.bool true, .inl ?_,rfl⟩;simp[execOp,uu,qC,eqGuard,binOp,Op.equal,Op.maxDepth,e2,this]
  exact hr.elim
 .rename_i hx;split at hr
  case h_2=>exact hr.elim
  rename_i hy;have qC:=A.L _ _ hy;have uu:=A.L _ _ hx;simp only[Den]at qC uu;obtain⟨qC,_⟩:=qC;obtain⟨uu,_⟩:=uu;split at hr
  case h_2=>exact hr.elim
  rename_i e hs;obtain⟨d,hd,hm⟩:=A.T.qY t (by rw[hs];simp);rw[hs]at hm;simp only[qV]at hm;subst hm;have e1:∀d,(Op.equalIn (d+1) t (.slice none 0 0) (.slice none 0 0)).run M.P w= .ok true w:=fun d=>by simp[Op.equalIn,Z5 hd]
  have e2:=e1 9999;split at hr
  .refine A.val hr ⟨.bool true, .inl ?_,rfl⟩;simp[execOp,uu,qC,eqGuard,binOp,Op.equal,Op.maxDepth,e2]
  .refine A.val hr ⟨.bool false, .inl ?_,rfl⟩;simp[execOp,uu,qC,eqGuard,binOp,Op.equal,Op.maxDepth,e2]
  exact hr.elim
 .rename_i a hx;split at hr
  case h_2=>exact hr.elim
  rename_i wv hy;split at hr
  case h_2=>exact hr.elim
  rename_i r hne;have qC:=A.L _ _ hy;simp only[Den]at qC;obtain⟨qC,_⟩:=qC;have key:=fun op=>IC (op:=op) (x:=x) A.T 9999 hne (A.L _ _ hx) qC w;split at hr
  .refine A.val hr ⟨.bool r, .inl ?_,rfl⟩;obtain⟨h1,h2,h3,_⟩:=key .eql;simp[execOp,h1,h3,Op.equal,Op.maxDepth,h2]
  .refine A.val hr ⟨.bool (!r), .inl ?_,rfl⟩;obtain⟨h1,h2,_,h3⟩:=key .neq;simp[execOp,h1,h3,Op.equal,Op.maxDepth,h2]
  exact hr.elim
 exact hr.elim
theorem IE(A:At M K w O nx ρ lk)(t:TypeId)(x:Operand)(lo hi mx:Option Operand)(hr:(wj M.C lk O nx (.slice t x lo hi mx)).ok O nx v O' vZ):Y9 M K w ⟨dst, .slice t x lo hi mx,ty,pos,af,gd⟩ ρ v O' vZ:=by
 simp only[wj,Oe]at hr;have hbd:∀{o:Operand} {k:IntKind} {n:Int},lk o=some (.int k n)->ρ o= .int k n:=fun h=>Jz (A.L _ _ h)
 have sb:∀(k:IntKind) (n:Int) (y:Nat) (c:BoundsCode),0<=n->n<=y->(Instr.sliceBound (.int k n) y c).run M.P w= .ok n.toNat w:=by
  intro k n y c h0 h1;simp[Instr.sliceBound,asIntOf,h0,h1]
 split at hr
 .rename_i s hx;have uu:=r7 (A.L _ _ hx);split at hr
  case h_2=>exact hr.elim
  rename_i hs;obtain⟨d,hd,hm⟩:=A.T.qY t (by rw[hs];simp);rw[hs]at hm;simp only[qV]at hm;subst hm;split at hr
  case h_2=>exact hr.elim
  unfold AQ at hr;split at hr
  .rename_i hlo;cases lo with
   |some _=>simp at hlo
   |none=>
    split at hr
    .rename_i hhi;cases hi with
     |some _=>simp at hhi
     |none=>
      refine A.val hr ⟨_, .inl ?_,rfl⟩;simp[execOp,uu,Instr.sliceAt,Instr.slice,Instr.sliceBounds,Z5 hd,Vl,Va]
    .rename_i k h hhi;cases hi with
     |none=>simp at hhi
     |some oh=>
      simp only[Option.map_some,zh]at hhi;obtain⟨⟨h0,h1⟩,hr⟩:=hr;refine A.val hr ⟨_, .inl ?_,rfl⟩;have e1:=sb k h s.length .sliceAlen h0 h1;simp[execOp,uu,Instr.sliceAt,Instr.slice,Instr.sliceBounds,Z5 hd,Vl,Va,hbd hhi,e1]
    exact hr.elim
  .rename_i kl l hlo;cases lo with
   |none=>simp at hlo
   |some ol=>
    simp only[Option.map_some,zh]at hlo;split at hr
    .rename_i hhi;cases hi with
     |some _=>simp at hhi
     |none=>
      obtain⟨⟨h0,h1⟩,hr⟩:=hr;refine A.val hr ⟨_, .inl ?_,rfl⟩;have e1:=sb kl l s.length .sliceB h0 h1;have e2:(s.drop l.toNat).take (s.length-l.toNat)=s.drop l.toNat:=zo (by simp);simp[execOp,uu,Instr.sliceAt,Instr.slice,Instr.sliceBounds,Z5 hd,Vl,Va,hbd hlo,e1,e2]
    .rename_i k h hhi;cases hi with
     |none=>simp at hhi
     |some oh=>
      simp only[Option.map_some,zh]at hhi;obtain⟨⟨h0,h1,h2⟩,hr⟩:=hr;refine A.val hr ⟨_, .inl ?_,rfl⟩;have e1:=sb k h s.length .sliceAlen (by omega) h2;have e2:=sb kl l h.toNat .sliceB h0 (by omega);simp[execOp,uu,Instr.sliceAt,Instr.slice,Instr.sliceBounds,Z5 hd,Vl,Va,hbd hhi,hbd hlo,e1,e2]
    exact hr.elim
  exact hr.elim
 .rename_i b r es len lim hx;split at hr
  case h_2=>exact hr.elim
  rename_i e hs;obtain⟨d,hd,hm⟩:=A.T.qY t (by rw[hs];simp);rw[hs]at hm;simp only[qV]at hm;subst hm;split at hr
  case h_2=>exact hr.elim
  rename_i wT;have wT:=Zq wT;split at hr
  case h_2=>exact hr.elim
  rename_i hok;have eO:M.C.T.sh e≠ .other:=by intro h;simp[kf,h]at hok
  obtain⟨ie,hie,uV,_⟩:=A.T.info e eO;rw[<-uV]at wT;have uu:=A.L _ _ hx
  have cut:∀(l h m:Nat) (lim':Option Nat) (bs:List (Nat×Nat×Nat)),l<=h->h<=m->(∀en,K.get b=some (some en)->(lim'=lim/\m=lim.getD en.cap-r)\/(lim'=some (r+m)/\m<=lim.getD en.cap-r))->(K.get b=some none->m=0)->
   ∃u,(∀(len cap:Nat) (a:Option Addr),ρ x= .slice a len cap->u= .slice (if m=l then a else a.map (·.add (l*ie.size))) (h-l) (m-l))/\Den K (.sl b (r+l) es (h-l) lim') u:=by
   intro l h m lim' _ hlh hhm sD hnil;have pe:=uu;simp only[Den]at pe;rcases pe with⟨h1,h2,h3⟩|⟨en,o,h1,h2,h3,h4,h5⟩
   .have hm0:=hnil h1;refine⟨.slice none 0 0,?_,?_⟩
    .intro len' cap' a ha;rw[h2]at ha;injection ha with a1 a2 a3;subst a1;have:l=0:=by omega
     have:h=0:=by omega
     simp_all
    exact Or.inl ⟨h1,rfl,by omega⟩
   .refine⟨.slice (if m=l then some ⟨en.g,o,none⟩else some ((⟨en.g,o,none⟩:Addr).add (l*ie.size))) (h-l) (m-l),?_,?_⟩
    .intro len' cap' a ha;rw[h2]at ha;injection ha with a1 a2 a3;subst a1;simp
    .simp only[Den];right
     have hL:lim'.getD en.cap=r+m/\r+m<=lim.getD en.cap/\(m≠0->r<lim.getD en.cap):=by
      have hh:=sD en h1;clear sD h5 h2;obtain⟨L,mg⟩:∃L,lim.getD en.cap=L:=⟨_,rfl⟩;rw[mg]at h3 h4 hh⊢;rcases hh with⟨e1,hm⟩|⟨e1,hm⟩
      rw[e1,mg];omega;rw[e1];refine⟨rfl,?_,?_⟩<;>omega
     refine⟨en,if m=l then o else o+l*ie.size,h1,?_⟩;rw[hL.1];refine⟨?_,by omega,by omega,?_⟩
     .congr 1
      .split
       rfl
       rw[Addr.add_lit]
      omega
     .intro hlt;by_cases hml:m=l
      .rcases hlt with hlt|hlt
       omega
       .obtain⟨rfl,rfl⟩:r=0/\l=0:=by omega
        rw[z8 hml,h5 (.inr rfl)]
      .have h0:r<lim.getD en.cap\/r=0:=by
        rcases hlt with hlt|hlt
        exact .inl (hL.2.2 (by omega));exact .inr (by omega)
       rw[z6 hml,h5 h0,wT,xB];omega
  obtain⟨a,cap,hv,hlc,hcap,pg⟩:∃a cap,ρ x= .slice a len cap/\len<=cap/\(∀en,K.get b=some (some en)->cap=lim.getD en.cap-r)/\reach O b r len lim<=cap/\(K.get b=some none->cap=0):=by
   have pe:=uu;simp only[Den]at pe;rcases pe with⟨h1,h2,h3⟩|⟨en,o,h1,h2,h3,h4,h5⟩
   .subst h3;refine⟨none,0,h2,zn _,(fun en h=>by rw[h1]at h;cases h),?_,fun _=>rfl⟩;unfold reach;cases lim with
    |some _=>exact zn _
    |none=>
     simp only;split
     .rename_i es' rs hO;cases b with
      |uM g=>simp[sA]at hO
      |loc i=>
       obtain⟨uc,_⟩:=A.H.own.1 i _ hO;simp only[vV]at uc;rcases uc with⟨_,rfl⟩|⟨e',arr,T',fz,h6,_⟩
       simp;rw[h1]at h6;cases h6
     exact zn _
   .refine⟨some ⟨en.g,o,none⟩,lim.getD en.cap-r,h2,by omega,(fun e' h=>by rw[h1]at h;cases h;rfl),?_,(fun h=>by rw[h1]at h;cases h)⟩;unfold reach;cases lim with
    |some _=>simp only;omega
    |none=>
     simp only;split
     .rename_i es' rs hO;cases b with
      |uM g=>simp[sA]at hO
      |loc i=>
       obtain⟨uc,_⟩:=A.H.own.1 i _ hO;simp only[vV]at uc;rcases uc with⟨h6,_⟩|⟨e',arr,T',fz,h6,_,h7,_⟩
       rw[h1]at h6;cases h6
       .rw[h1]at h6;cases h6;have h8:=(h7 trivial).2.2.1;simp at h3⊢;omega
     simp at h3⊢;omega
  obtain⟨pg,aG⟩:=pg;have wH:∀en,K.get b=some (some en)->(lim=lim/\cap=lim.getD en.cap-r)\/(lim=some (r+cap)/\cap<=lim.getD en.cap-r):=fun en h=> .inl ⟨rfl,hcap en h⟩;unfold AR at hr;split at hr
  .rename_i sF;cases mx with
   |some _=>simp at sF
   |none=>
    split at hr
    .rename_i hlo;cases lo with
     |some _=>simp at hlo
     |none=>
      split at hr
      .rename_i hhi;cases hi with
       |some _=>simp at hhi
       |none=>
        refine A.val hr ⟨ρ x, .inl ?_,uu⟩;simp[execOp,hv,Instr.sliceAt,Instr.slice,Instr.sliceBounds,Z5 hd,Zr hie,Addr.add_zero']
      .rename_i k h hhi;cases hi with
       |none=>simp at hhi
       |some oh=>
        simp only[Option.map_some,zh]at hhi;obtain⟨⟨h0,h1⟩,hr⟩:=hr;obtain⟨u,hu,eE⟩:=cut 0 h.toNat cap lim [] (by omega) (by omega) wH aG;refine A.val hr ⟨u, .inl ?_,by simpa using eE⟩;have e1:=sb k h cap .sliceAcap h0 (by omega);have hu:=hu _ _ _ hv;simp[execOp,hv,Instr.sliceAt,Instr.slice,Instr.sliceBounds,Z5 hd,hbd hhi,e1,Zr hie,hu]
      exact hr.elim
    .rename_i kl l hlo;cases lo with
     |none=>simp at hlo
     |some ol=>
      simp only[Option.map_some,zh]at hlo;split at hr
      .rename_i hhi;cases hi with
       |some _=>simp at hhi
       |none=>
        obtain⟨⟨h0,h1⟩,hr⟩:=hr;obtain⟨u,hu,eE⟩:=cut l.toNat len cap lim [] (by omega) hlc wH aG;refine A.val hr ⟨u, .inl ?_,eE⟩;have e1:=sb kl l len .sliceB h0 h1;have hu:=hu _ _ _ hv;simp[execOp,hv,Instr.sliceAt,Instr.slice,Instr.sliceBounds,Z5 hd,hbd hlo,e1,Zr hie,hu]
      .rename_i k h hhi;cases hi with
       |none=>simp at hhi
       |some oh=>
        simp only[Option.map_some,zh]at hhi;obtain⟨⟨h0,h1,h2⟩,hr⟩:=hr;obtain⟨u,hu,eE⟩:=cut l.toNat h.toNat cap lim [] (by omega) (by omega) wH aG;refine A.val hr ⟨u, .inl ?_,eE⟩;have e1:=sb k h cap .sliceAcap (by omega) (by omega);have e2:=sb kl l h.toNat .sliceB h0 (by omega);have hu:=hu _ _ _ hv;simp[execOp,hv,Instr.sliceAt,Instr.slice,Instr.sliceBounds,Z5 hd,hbd hhi,hbd hlo,e1,e2,Zr hie,hu]
      exact hr.elim
    exact hr.elim
  .rename_i km m sF;cases mx with
   |none=>simp at sF
   |some om=>
    simp only[Option.map_some,zh]at sF;split at hr
    case h_2=>exact hr.elim
    rename_i hlo;cases lo with
    |some _=>simp at hlo
    |none=>
     split at hr
     case h_2=>exact hr.elim
     rename_i k h hhi;cases hi with
     |none=>simp at hhi
     |some oh=>
      simp only[Option.map_some,zh]at hhi;obtain⟨⟨h0,h1,h2⟩,hr⟩:=hr;obtain⟨u,hu,eE⟩:=cut 0 h.toNat m.toNat (some (r+m.toNat)) [] (by omega) (by omega) (fun en h=> .inr ⟨rfl,by have:=hcap en h;omega⟩) (fun h=>by have:=aG h;omega);refine A.val hr ⟨u, .inl ?_,by simpa using eE⟩;have e1:=sb k h m.toNat .slice3B h0 (by omega);have e2:=sb km m cap .slice3Acap (by omega) (by omega);have hu:=hu _ _ _ hv;simp[execOp,hv,Instr.sliceAt,Instr.slice,Instr.sliceBounds,Z5 hd,hbd hhi,hbd sF,e1,e2,Zr hie,hu]
  exact hr.elim
 .rename_i hx;split at hr
  case h_2=>exact hr.elim
  rename_i e hs;obtain⟨d,hd,hm⟩:=A.T.qY t (by rw[hs];simp);rw[hs]at hm;simp only[qV]at hm;subst hm;split at hr
  case h_2=>exact hr.elim
  rename_i hok;have eO:M.C.T.sh e≠ .other:=by intro h;simp[kf,h]at hok
  obtain⟨ie,hie,uV,_⟩:=A.T.info e eO;have uu:ρ x= .slice none 0 0:=(A.L _ _ hx).1;unfold AV at hr;split at hr
  case h_1=>exact hr.elim
  rename_i sF;cases mx with
  |some _=>simp at sF
  |none=>
   split at hr
   case h_1=>exact hr.elim
   rename_i hlo;cases lo with
   |some _=>simp at hlo
   |none=>
    split at hr
    .rename_i hhi;cases hi with
     |some _=>simp at hhi
     |none=>
      refine A.val hr ⟨ρ x, .inl ?_,A.L _ _ hx⟩;simp[execOp,uu,Instr.sliceAt,Instr.slice,Instr.sliceBounds,Z5 hd,Zr hie]
    .rename_i k h hhi;cases hi with
     |none=>simp at hhi
     |some oh=>
      simp only[Option.map_some,zh]at hhi;obtain⟨rfl,hr⟩:=hr;refine A.val hr ⟨ρ x, .inl ?_,A.L _ _ hx⟩;have e1:=sb k 0 0 .sliceAcap (by omega) (by omega);simp[execOp,uu,Instr.sliceAt,Instr.slice,Instr.sliceBounds,Z5 hd,hbd hhi,e1,Zr hie]
    exact hr.elim
 exact hr.elim
end
theorem P5{w w':World}{o:Obj}(h:w'.heap=w.heap.push o){k:Nat}(hk:k<w.heap.size):w'.heap[k]?=w.heap[k]?:=by
 rw[h,vh,z6 (by omega)]
theorem Yo{w w':World}{o:Obj}(h:w'.heap=w.heap.push o):w'.heap[w.heap.size]?=some o:=by
 rw[h,vh,z8 rfl]
section
variable {M:Mx}{K:Env}{w w':World}{O:u0}{nx:Nat}
theorem vU.lt(H:vU M K w O nx){i:Nat}{h:Hp}(hi:u6 i O=some h):i<nx:=by
 obtain⟨x,hx,_⟩:=(H.own.1 i h hi).1.lt;rw[<-H.len];exact(zg.1 hx).1
theorem Fq.still(H:Fq M K w O)(hh:w'.heap=w.heap):Fq M K w' O:=
 ⟨fun i h hi=>⟨(H.1 i h hi).1.keep fun k _=>by rw[hh],fun k hk=>(H.1 i h hi).2 k (hk.keep fun e _=>by rw[hh])⟩,
  fun i j h h' k hi hj hij f f'=>H.2 i j h h' k hi hj hij (f.keep fun e _=>by rw[hh]) (f'.keep fun e _=>by rw[hh])⟩
theorem vU.still(H:vU M K w O nx)(hh:w'.heap=w.heap)(ho:w'.os=w.os)(ht:w'.tape=w.tape)(hp:w'.output=w.output)(fB:w.drawn<=w'.drawn):vU M K w' O nx:=
 {pre:=H.pre,len:=H.len,wH:=H.wH
  own:=H.own.still hh
  fr:=⟨ho.trans H.fr.os,ht.trans H.fr.tape,hp.trans H.fr.output,zK H.fr.drawn fB,by rw[hh];exact H.fr.size,fun k hk hF=>by rw[hh];exact H.fr.block k hk hF⟩}
theorem u5.of{K:Env}{w:World}{b:wG}{h:Hp}{k:Nat}{e:qJ}(he:K.get b=some (some e))(f:u5 K w b h k):e.g=k\/uC w e.g h k:=by
 obtain⟨e',h1,h2⟩:=f;rw[he]at h1;injection h1 with h1;injection h1 with h1;subst h1;exact h2
theorem u5.none{K:Env}{w:World}{b:wG}{h:Hp}{k:Nat}(he:K.get b=some none)(f:u5 K w b h k):False:=by
 obtain⟨e',h1,h2⟩:=f;rw[he]at h1;injection h1 with h1;cases h1
theorem vU.stands(H:vU M K w O nx){η':Env}(hp:K<+:η'){i:Nat}{h:Hp}(hi:u6 i O=some h){w':World}(hw:∀k,u5 K w (.loc i) h k->w'.heap[k]?=w.heap[k]?){k:Nat}(f:u5 η' w' (.loc i) h k):u5 K w (.loc i) h k:=by
 obtain⟨x,hx,_⟩:=(H.own.1 i h hi).1.lt;exact(f.less hp hx).keep fun e he=>hw _ (u5.own he)
theorem vU.push(H:vU M K w O nx)(x:Option qJ){h:Hp}{w':World}(hold:∀k,k<w.heap.size->w'.heap[k]?=w.heap[k]?)(hsz:w.heap.size<=w'.heap.size)(ho:w'.os=w.os)(ht:w'.tape=w.tape)(hp:w'.output=w.output)(fB:w.drawn<=w'.drawn)
 (hs:vV (K++ [x]) w' true (.loc nx) h) (hF:∀k,u5 (K++ [x]) w' (.loc nx) h k->M.F k\/M.w0.heap.size<=k)
 (hne:∀k,u5 (K++ [x]) w' (.loc nx) h k->∀(j:Nat) (g:Hp),u6 j O=some g->¬u5 K w (.loc j) g k):vU M (K++ [x]) w' ((nx,h)::O) (nx+1):=by
 have hpre:K<+:K++ [x]:=zD _ _;have keep:∀i h,u6 i O=some h->∀k,u5 K w (.loc i) h k->w'.heap[k]?=w.heap[k]?:=fun i h hi k f=>hold k ((H.own.1 i h hi).1.uL f);have back:∀i h,u6 i O=some h->∀k,u5 (K++ [x]) w' (.loc i) h k->u5 K w (.loc i) h k:=fun i h hi k f=>H.stands hpre hi (keep i h hi) f;refine{pre:=H.pre.trans hpre,len:=by simp[H.len],wH:=H.wH,own:=⟨?_,?_⟩,fr:=⟨ho.trans H.fr.os,ht.trans H.fr.tape,hp.trans H.fr.output,zK H.fr.drawn fB,zK H.fr.size hsz,?_⟩}
 .intro i g hi;rw[Z6]at hi;split at hi
  .rename_i e;subst e;injection hi with hi;subst hi;exact⟨hs,hF⟩
  exact⟨((H.own.1 i g hi).1.keep (keep i g hi)).mono hpre,fun k f=>(H.own.1 i g hi).2 k (back i g hi k f)⟩
 .intro i j g g' k hi hj hij f f';rw[Z6]at hi hj;split at hi
  .rename_i hq;subst hq;rw[z6 (yO hij)]at hj;injection hi with hi;subst hi;exact hne k f j g' hj (back j g' hj k f')
  .split at hj
   .rename_i hq;subst hq;injection hj with hj;subst hj;exact hne k f' i g hi (back i g hi k f)
   exact H.own.2 i j g g' k hi hj hij (back i g hi k f) (back j g' hj k f')
 .intro k hk hF;rw[hold k (yI hk H.fr.size)];exact H.fr.block k hk hF
def sG:Hp->Bool
 | .kH _ _ _=>false
 | .deep _ _ _=>false
 | .gJ (_::_)=>false
 |_=>true
theorem WW{h:Hp}(hl:sG h=true){w:World}{g k:Nat}(f:uC w g h k):False:=by
 cases h with
 |kH T t l=>cases hl
 |deep mp es rs=>cases hl
 |gJ l=>
  cases l with
  |nil=>cases f
  |cons _ _=>cases hl
 |_=>exact f
theorem vU.alloc(H:vU M K w O nx){o:Obj}(hh:w'.heap=w.heap.push o)(ho:w'.os=w.os)(ht:w'.tape=w.tape)(hp:w'.output=w.output)(base cap:Nat){h:Hp}
 (hs:vV (K++ [some ⟨w.heap.size,base,cap⟩]) w' true (.loc nx) h) (fB:w.drawn<=w'.drawn:=by first|exact zn _|exact xH _) (hl:sG h=true:=by rfl):vU M (K++ [some ⟨w.heap.size,base,cap⟩]) w' ((nx,h)::O) (nx+1):=by
 have hnew:(K++ [some (⟨w.heap.size,base,cap⟩:qJ)]).get (.loc nx)=some (some ⟨w.heap.size,base,cap⟩):=by simp only[Env.get];rw[<-H.len];simp
 have one:∀k,u5 (K++ [some ⟨w.heap.size,base,cap⟩]) w' (.loc nx) h k->k=w.heap.size:=fun k f=>by
  rcases f.of hnew with h1|h1
  exact h1.symm;exact(WW hl h1).elim
 refine H.push _ (fun k hk=>P5 hh hk) (by rw[hh,Array.size_push];exact xH _) ho ht hp fB hs (fun k f=> .inr ?_) fun k f j g hj f'=>?_;rw[one k f];exact H.fr.size
 .have:=(H.own.1 j g hj).1.uL f';rw[one k f]at this;omega
theorem vU.bT(H:vU M K w O nx){i:Nat}{h0 h:Hp}(hi:u6 i O=some h0){e:qJ}(he:K[i]?=some (some e))(wU:∀k,k≠e.g->w'.heap[k]?=w.heap[k]?)(hsz:w'.heap.size=w.heap.size)
 (ho:w'.os=w.os) (ht:w'.tape=w.tape) (hp:w'.output=w.output) (hs:vV K w' true (.loc i) h) (fB:w.drawn<=w'.drawn) (K5:∀k,u5 K w' (.loc i) h k->u5 K w (.loc i) h0 k):vU M K w' (uO i h O) nx:=by
 have hsome:(u6 i O).isSome:=by rw[hi];rfl
 have fi:u5 K w (.loc i) h0 e.g:=u5.own he;have keep:∀j g,j≠i->u6 j O=some g->∀k,u5 K w (.loc j) g k->w'.heap[k]?=w.heap[k]?:=fun j g hji hj k f=>wU k fun hk=>H.own.2 j i g h0 k hj hi hji f (hk▸fi);have back:∀j g,j≠i->u6 j O=some g->∀k,u5 K w' (.loc j) g k->u5 K w (.loc j) g k:=fun j g hji hj k f=>H.stands zx hj (keep j g hji hj) f;refine{pre:=H.pre,len:=H.len,wH:=H.wH,own:=⟨?_,?_⟩,fr:=⟨ho.trans H.fr.os,ht.trans H.fr.tape,hp.trans H.fr.output,zK H.fr.drawn fB,by rw[hsz];exact H.fr.size,?_⟩}
 .intro j g hj;rw[Y5 i h O j hsome]at hj;split at hj
  .rename_i e;subst e;injection hj with hj;subst hj
   exact⟨hs,fun k f=>(H.own.1 j h0 hi).2 k (K5 k f)⟩
  .rename_i hne;exact⟨(H.own.1 j g hj).1.keep (keep j g hne hj),fun k f=>(H.own.1 j g hj).2 k (back j g hne hj k f)⟩
 .intro j k g g' m hj hk hne f f';rw[Y5 i h O j hsome]at hj;rw[Y5 i h O k hsome]at hk;split at hj
  .rename_i e1;subst e1;injection hj with hj;subst hj
   rw[z6 (yO hne)]at hk;exact H.own.2 j k h0 g' m hi hk hne (K5 m f) (back k g' (yO hne) hk m f')
  .rename_i hji;split at hk
   .rename_i e1;subst e1;injection hk with hk;subst hk
    exact H.own.2 j k g h0 m hj hi hne (back j g hji hj m f) (K5 m f')
   .rename_i hki;exact H.own.2 j k g g' m hj hk hne (back j g hji hj m f) (back k g' hki hk m f')
 .intro k hk hF;rw[wU k ?_];exact H.fr.block k hk hF
  .intro hke;subst hke;rcases H.K4 hi he with h1|h1
   exact hF h1;omega
theorem vU.jK(H:vU M K w O nx){i:Nat}{h0 h:Hp}(hi:u6 i O=some h0){e:qJ}(he:K[i]?=some (some e))(wU:∀k,k≠e.g->w'.heap[k]?=w.heap[k]?)(hsz:w'.heap.size=w.heap.size)
 (ho:w'.os=w.os) (ht:w'.tape=w.tape) (hp:w'.output=w.output) (hs:vV K w' true (.loc i) h) (fB:w.drawn<=w'.drawn:=by first|exact zn _|exact xH _) (hl:sG h=true:=by rfl):vU M K w' (uO i h O) nx:=
 H.bT hi he wU hsz ho ht hp hs fB fun k f=>by
  rcases f.of (e:=e) (show K.get (.loc i)=some (some e)from he)with h1|h1
  exact h1▸u5.own he;exact(WW hl h1).elim
theorem vU.name(H:vU M K w O nx)(x:Option qJ){h:Hp}(hs:vV (K++ [x]) w true (.loc nx) h)(hF:∀e,x=some e->M.F e.g\/M.w0.heap.size<=e.g)
 (hne:∀e,x=some e->∀(j:Nat) (g:Hp),u6 j O=some g->¬u5 K w (.loc j) g e.g) (hl:sG h=true:=by rfl):vU M (K++ [x]) w ((nx,h)::O) (nx+1):=by
 have hnew:(K++ [x]).get (.loc nx)=some x:=by simp only[Env.get];rw[<-H.len];simp
 have one:∀k,u5 (K++ [x]) w (.loc nx) h k->∃e,x=some e/\k=e.g:=fun k f=>by
  obtain⟨e,h1,h2⟩:=f;rw[hnew]at h1;injection h1 with h1
  rcases h2 with h2|h2
  exact⟨e,h1,h2.symm⟩;exact(WW hl h2).elim
 refine H.push x (fun k hk=>rfl) (zn _) rfl rfl rfl (zn _) hs (fun k f=>?_) fun k f j g hj f'=>?_;obtain⟨e,h1,rfl⟩:=one k f;exact hF e h1;obtain⟨e,h1,rfl⟩:=one k f;exact hne e h1 j g hj f'
end
theorem YR{P:Program}(g o:Nat)(t:TypeId)(fz:Nat×Nat):∀(vs:List Value) (i:Nat) (cur:Array Value) (w:World),w.heap[g]?=some (.cells cur t fz)->o+i+vs.length<=cur.size->JW cur.size fz->(∀v∈vs,v.oneCell'=true)->
 (storeCells ⟨g,o,none⟩ vs i).run P w= .ok () (w.setRow g (cur.toList.take (o+i)++vs++cur.toList.drop (o+i+vs.length)).toArray)
 | [],i,cur,w,hg,_,_,_=>by
   simp only[storeCells,zU,List.length_nil,Nat.add_zero,xd,Array.toArray_toList];rw[setRow_self w g cur t fz hg]
   rfl
 |v::rest,i,cur,w,hg,hl,hu,h1=>by
  have hi:o+i<cur.size:=by simp at hl;omega
  have mK:(⟨g,o,none⟩:Addr).add i=⟨g,o+i,none⟩:=by unfold Addr.add;split<;>simp_all
  have hcell:w.cell? ⟨g,o+i,none⟩=some cur[o+i]:=by simp[World.cell?,hg,hi]
  have Dd:w.frozen? ⟨g,o+i,none⟩=false:=by
   have:=hu (o+i) hi;simp only[World.frozen?,hg];simpa using this
  have hst:(store ((⟨g,o,none⟩:Addr).add i) v).run P w= .ok () (w.setRow g (cur.setIfInBounds (o+i) v)):=by
   rw[mK,run_store P w _ v _ (h1 v (by simp)),hcell];simp[Dd,setCell_eq_setRow w g (o+i) cur t fz v hg]
  have ih:=YR (P:=P) g o t fz rest (i+1) (cur.setIfInBounds (o+i) v) (w.setRow g (cur.setIfInBounds (o+i) v)) (setRow_heap w g cur _ t _ hg) (by simp at hl⊢;omega) (by simpa using hu) (fun x hx=>h1 x (by simp[hx]));simp only[storeCells,Sem.run_bind,hst,Result.andThen_ok,ih,setRow_setRow];congr 3;have:=list_seg_step cur.toList (o+i) v rest (by simp at hl⊢;omega);simpa[xx,Nat.add_comm,Nat.add_left_comm]using this
theorem Fw{P:Program}{T:qg}(hT:ux P T){K:Env}{t:TypeId}{c:Nat}{row:List SV}{v:SV}{O:u0}{nx:Nat}{O':u0}{vZ:Nat}{w:World}{g o:Nat}{arr:Array Value}{tt:TypeId}{fz:Nat×Nat}
 (hg:w.heap[g]?=some (.cells arr tt fz)) (hc:um K arr o row) (hr:(Wv T t c row).ok O nx v O' vZ):O'=O/\vZ=nx/\∃u,(loadVar t ⟨g,o+c,none⟩).run P w= .ok u w/\Den K v u:=by
 unfold Wv at hr;cases ht:o3 (T.size t) (row.drop c)with
 |none=>rw[ht]at hr;exact hr.elim
 |some cs=>
  rw[ht]at hr;simp only at hr;obtain⟨rfl,hlen⟩:=Vk ht;cases ho:Yu T t ((row.drop c).take (T.size t))with
  |none=>rw[ho]at hr;exact hr.elim
  |some sv=>
   rw[ho]at hr;obtain⟨rfl,rfl,rfl⟩:=hr
   have hsh:T.sh t≠ .other:=by
    intro e;simp only[Yu,e]at ho;cases ho
   obtain⟨i,hi,hsz,_⟩:=hT.info t hsh;refine⟨rfl,rfl,?_⟩;have ag:=D6 hT hsh w
   have K6:eM K (row.drop c) arr.toList (o+c):=by
    intro j sv hj;rw[ye]at hj;obtain⟨u,h1,_,h2⟩:=hc _ _ hj;exact⟨u,by rw[xx];simpa using h1,h2⟩
   have hone:∀u∈(arr.toList.drop (o+c)).take (T.size t),u.oneCell'=true:=by
    intro u hu;obtain⟨j,hj⟩:=List.getElem?_of_mem hu;rw[y4]at hj;split at hj
    .rename_i hlt;have Fx:(row.drop c)[j]?=some ((row.drop c)[j]'(by omega)):=z1 _;rw[ye]at Fx hj;obtain⟨u',h1,h2,_⟩:=hc _ _ Fx;have:arr.toList[o+c+j]?=some u':=by rw[xx];simpa using h1
     rw[this]at hj;injection hj with hj;subst hj;exact h2
    cases hj
   have fu:=K6.take hlen
   have hcell:∀j u,((arr.toList.drop (o+c)).take (T.size t))[j]?=some u->w.cell? ((⟨g,o+c,none⟩:Addr).add j)=some u:=by
    intro j u hj;rw[y4]at hj;split at hj
    .rw[ye]at hj;rw[Addr.add_lit];simp only[World.cell?,hg];simpa using hj
    cases hj
   have mh:((arr.toList.drop (o+c)).take (T.size t)).length=T.size t:=by rw[ZL fu,zA];omega
   have agg:(U7 (T.sh t))=true->v= .agg ((row.drop c).take (T.size t))->∃u,(loadVar t ⟨g,o+c,none⟩).run P w= .ok u w/\Den K v u:=by
    rintro hb rfl;rw[hb]at ag;have hl:=run_loadCells_list (P:=P) w ⟨g,o+c,none⟩ _ hcell;rw[mh]at hl;refine⟨.agg ⟨(arr.toList.drop (o+c)).take (T.size t)⟩,?_,?_⟩;simp only[loadVar,Sem.run_bind,ag,Result.andThen_ok,yH,Zr hi,hsz,hl,Sem.run_pure]
    .simp only[Den];exact⟨_,rfl,fu,hone⟩
   have one:(U7 (T.sh t))=false->(row.drop c).take (T.size t)=[v]->∃u,(loadVar t ⟨g,o+c,none⟩).run P w= .ok u w/\Den K v u:=by
    intro hb hs;rw[hb]at ag;rw[hs]at fu;obtain⟨u,hu,eE⟩:=Xo (i:=0) fu rfl;have:=hcell 0 u hu;rw[Addr.add_zero']at this;exact⟨u,by simp[loadVar,ag,this],eE⟩
   cases hs:T.sh t<;>rw[hs]at agg one<;>simp only[Yu,hs]at ho
   case struct=>simp only[zh]at ho;exact agg rfl ho.symm
   case array=>simp only[zh]at ho;exact agg rfl ho.symm
   case other=>cases ho
   all_goals
    split at ho
    .rename_i c hc;simp only[zh]at ho;subst ho;exact one rfl hc
    cases ho
section
variable {M:Mx}{K:Env}{w:World}{O:u0}{nx:Nat}{ρ:Operand->Value}{lk:Operand->Option SV}{v:SV}{O':u0}{vZ:Nat}{dst:Option Tmp}{ty:TypeId}{pos:String}{af:Array Edge}{gd:Option (Nat×Bool)}
theorem De{K:Env}{arr:Array Value}{base es:Nat}:∀{rs:List (List SV)},(∀(i:Nat) (row:List SV),rs[i]?=some row->row.length=es/\um K arr (base+i*es) row)->
 uk K es rs ((arr.toList.drop base).take (rs.length*es))/\((arr.toList.drop base).take (rs.length*es)).length=rs.length*es/\∀u∈(arr.toList.drop base).take (rs.length*es),u.oneCell'=true:=by
 intro rs
 induction rs generalizing base with
 |nil=>intro _;simp[uk]
 |cons r rs ih=>
  intro h;obtain⟨h1,h2⟩:=h 0 r rfl
  have h3:=ih (base:=base+es) (fun i row hi=>by
   obtain⟨h4,h5⟩:=h (i+1) row (by simpa using hi);refine⟨h4,?_⟩;rw[show base+es+i*es=base+(i+1)*es by rw[yB];omega]
   exact h5)
  have hf:eM K r arr.toList base:=fun j sv hj=>by
   obtain⟨u,h6,_,h7⟩:=h2 j sv hj;exact⟨u,by simpa using h6,h7⟩
  have hd:=hf.take (n:=es) (by omega);rw[zo (by omega)]at hd;have hlen:((arr.toList.drop base).take es).length=es:=by rw[ZL hd,h1]
  have hsplit:(arr.toList.drop base).take ((r::rs).length*es)=(arr.toList.drop base).take es++(arr.toList.drop (base+es)).take (rs.length*es):=by
   rw[List.length_cons,yB,Nat.add_comm,List.take_add,x4]
  rw[hsplit];refine⟨?_,?_,?_⟩;simp only[uk];exact⟨_,_,rfl,hlen,hd,h3.1⟩;rw[ze,hlen,h3.2.1,List.length_cons,yB];omega
  .intro u hu;rcases zX.1 hu with hu|hu
   .obtain⟨j,hj⟩:=List.getElem?_of_mem hu;rw[y4]at hj;split at hj
    .rename_i hlt;obtain⟨u',h6,h7,_⟩:=h2 j _ (z1 (by omega));rw[ye]at hj;rw[yQ,Nat.add_zero]at h6;have:arr.toList[base+j]?=some u':=by simpa using h6
     rw[this]at hj;injection hj with hj;subst hj;exact h7
    cases hj
   exact h3.2.2 u hu
theorem P6(hT:ux M.P M.C.T)(H:vU M K w O nx){t:TypeId}{p:SV}{pv:Value}(uu:Den K p pv)(hr:(iY M.C.T (Yv M.C O) t p).ok O nx v O' vZ):
 O'=O/\vZ=nx/\∃a u,pv= .pointer (some a)/\(loadVar t a).run M.P w= .ok u w/\Den K v u:=by
 unfold iY at hr;split at hr
 case h_2=>exact hr.elim
 rename_i b r es c;simp only[Den]at uu;obtain⟨en,hb,uu⟩:=uu;subst uu;split at hr
 .rename_i row hh;have uc:=H.look hh;simp only[vV]at uc;obtain⟨eP,arr,T,fz,h1,h2,_,h3⟩:=uc;rw[hb]at h1;injection h1 with h1;injection h1 with h1;subst h1
  split at hr
  case h_2=>exact hr.elim
  rename_i hz;have hz:=Zq hz;subst hz;obtain⟨e1,e2,u,hu,hd⟩:=Fw hT h2 h3 hr;exact⟨e1,e2,_,u,rfl,by rw[yQ,zw];exact hu,hd⟩
 .rename_i es' rs hh;have uc:=H.look hh;simp only[vV]at uc;split at hr
  case h_2=>exact hr.elim
  rename_i wT;have wT:=Zq wT;subst wT;rcases uc with⟨h1,_⟩|⟨eP,arr,T,fz,h1,h2,_,h3⟩
  rw[hb]at h1;cases h1;rw[hb]at h1;injection h1 with h1;injection h1 with h1;subst h1
  have aH:∀{hr:(uz.get rs r fun row=>Wv M.C.T t c row).ok O nx v O' vZ},O'=O/\vZ=nx/\∃a u,(Value.pointer (some ⟨en.g,en.base+(r*es+c),none⟩))= .pointer (some a)/\(loadVar t a).run M.P w= .ok u w/\Den K v u:=by
   rintro⟨row,hrow,hr⟩;obtain⟨h4,h5⟩:=h3 r row hrow;obtain⟨e1,e2,u,hu,hd⟩:=Fw hT h2 h5 hr;exact⟨e1,e2,_,u,rfl,by rw[<-xx];exact hu,hd⟩
  split at hr
  .rename_i n e hs;split at hr
   .rename_i eO;have eO:=Zq eO;obtain⟨⟨rfl,rfl,hlen⟩,rfl,rfl,rfl⟩:=hr;obtain⟨h4,h5,h6⟩:=De h3;obtain⟨d,hd,hm⟩:=hT.qY t (by rw[hs];simp);rw[hs]at hm;simp only[qV]at hm;obtain⟨rfl,hsz,_⟩:=hm;obtain⟨i,hi,Df,_⟩:=hT.info t (by rw[hs];simp);have ag:=D6 hT (t:=t) (by rw[hs];simp) w;rw[hs]at ag;simp only[U7]at ag
    have hcell:∀j u,((arr.toList.drop en.base).take (rs.length*es))[j]?=some u->w.cell? ((⟨en.g,en.base,none⟩:Addr).add j)=some u:=by
     intro j u hj;rw[y4]at hj;split at hj
     .rw[ye]at hj;rw[Addr.add_lit];simp only[World.cell?,h2];simpa using hj
     cases hj
    have hl:=run_loadCells_list (P:=M.P) w ⟨en.g,en.base,none⟩ _ hcell;rw[h5]at hl;have pn:i.size=rs.length*es:=by rw[Df,hsz,hlen,eO]
    refine⟨rfl,rfl,_, .agg ⟨(arr.toList.drop en.base).take (rs.length*es)⟩,rfl,?_,?_⟩
    .simp only[yQ,Nat.add_zero];simp only[loadVar,Sem.run_bind,ag,Result.andThen_ok,yH,Zr hi,pn,hl,Sem.run_pure]
    simp only[Den];exact⟨_,rfl,h4,h6⟩
   exact aH (hr:=hr)
  exact aH (hr:=hr)
 .rename_i es' rs hh;have uc:=H.look hh;simp only[vV]at uc;split at hr
  case h_2=>exact hr.elim
  rename_i wT;have wT:=Zq wT;subst wT;rcases uc.1 with⟨h1,_⟩|⟨eP,arr,T,fz,h1,h2,_,h3⟩
  rw[hb]at h1;cases h1;rw[hb]at h1;injection h1 with h1;injection h1 with h1;subst h1
  obtain⟨row,hrow,hr⟩:=hr;obtain⟨h4,h5⟩:=h3 r row hrow;obtain⟨e1,e2,u,hu,hd⟩:=Fw hT h2 h5 hr;exact⟨e1,e2,_,u,rfl,by rw[<-xx];exact hu,hd⟩
 exact hr.elim
theorem IG(A:At M K w O nx ρ lk)(args:Array Operand)(ts:Array TypeId)(hr:(wj M.C lk O nx (.call ⟨.builtin .len,args,ts⟩)).ok O nx v O' vZ):Y9 M K w ⟨dst, .call ⟨.builtin .len,args,ts⟩,ty,pos,af,gd⟩ ρ v O' vZ:=by
 simp only[wj,JV,QX]at hr;split at hr
 case h_2=>exact hr.elim
 rename_i x ha;obtain rfl:args= #[x]:=by apply yC;simpa using ha
 split at hr
 case h_2=>exact hr.elim
 rename_i t ht;obtain rfl:ts= #[t]:=by apply yC;simpa using ht
 split at hr
 .rename_i s hx;split at hr
  case h_2=>exact hr.elim
  rename_i hs;obtain⟨d,hd,hm⟩:=A.T.qY t (by rw[hs];simp);rw[hs]at hm;simp only[qV]at hm;subst hm;have uu:=r7 (A.L _ _ hx);exact A.val hr ⟨.int .i64 s.length, .inl (by simp[execOp,resolve,invoke,builtin,uu,Builtin.len_,Z5 hd,goInt,Va]),rfl⟩
 .rename_i b r es len lim hx;split at hr
  case h_2=>exact hr.elim
  rename_i e hs;obtain⟨d,hd,hm⟩:=A.T.qY t (by rw[hs];simp);rw[hs]at hm;simp only[qV]at hm;subst hm;have uu:=A.L _ _ hx
  obtain⟨a,cap,hv⟩:∃a cap,ρ x= .slice a len cap:=by
   simp only[Den]at uu;rcases uu with⟨_,h,rfl⟩|⟨en,o,_,h,_⟩
   exact⟨_,_,h⟩;exact⟨_,_,h⟩
  exact A.val hr ⟨.int .i64 len, .inl (by simp[execOp,resolve,invoke,builtin,hv,Builtin.len_,Z5 hd,goInt]),rfl⟩
 .rename_i hx;split at hr
  case h_2=>exact hr.elim
  rename_i e hs;obtain⟨d,hd,hm⟩:=A.T.qY t (by rw[hs];simp);rw[hs]at hm;simp only[qV]at hm;subst hm;have uu:=(A.L _ _ hx).1;exact A.val hr ⟨.int .i64 _, .inl (by simp[execOp,resolve,invoke,builtin,uu,Builtin.len_,Z5 hd,goInt]),rfl⟩
 .rename_i b hx;split at hr
  case h_2=>exact hr.elim
  rename_i kt et hs;obtain⟨d,hd,hm⟩:=A.T.qY t (by rw[hs];simp);rw[hs]at hm;simp only[qV]at hm;subst hm;split at hr
  case h_2=>exact hr.elim
  rename_i rs hb;have uu:=A.L _ _ hx;simp only[Den]at uu;obtain⟨e,he,hv⟩:=uu;have uc:=A.H.look hb;simp only[vV]at uc;obtain⟨e',es,h1,h2,h3,h4,h5⟩:=uc;rw[he]at h1;cases h1;exact A.val hr ⟨.int .i64 rs.length, .inl (by simp[execOp,resolve,invoke,builtin,hv,Builtin.len_,Z5 hd,goInt,Jk h3,h4]),rfl⟩
 exact hr.elim
theorem II(A:At M K w O nx ρ lk)(args:Array Operand)(ts:Array TypeId)(hr:(wj M.C lk O nx (.call ⟨.builtin .cap,args,ts⟩)).ok O nx v O' vZ):Y9 M K w ⟨dst, .call ⟨.builtin .cap,args,ts⟩,ty,pos,af,gd⟩ ρ v O' vZ:=by
 simp only[wj,JV,QY]at hr;split at hr
 case h_2=>exact hr.elim
 rename_i x ha;obtain rfl:args= #[x]:=by apply yC;simpa using ha
 split at hr
 case h_2=>exact hr.elim
 rename_i t ht;obtain rfl:ts= #[t]:=by apply yC;simpa using ht
 split at hr
 case h_2=>exact hr.elim
 rename_i hx;split at hr
 case h_2=>exact hr.elim
 rename_i e hs;obtain⟨d,hd,hm⟩:=A.T.qY t (by rw[hs];simp);rw[hs]at hm;simp only[qV]at hm;subst hm;have uu:ρ x= .slice none 0 0:=(A.L _ _ hx).1;exact A.val hr ⟨.int .i64 0, .inl (by simp[execOp,resolve,invoke,builtin,uu,Builtin.cap_,Z5 hd,goInt]),rfl⟩
end
theorem UG(n:Nat):JW n (0,0):=fun o _ h=>by omega
theorem um.dL{K:Env}{row:List SV}{vs:List Value}(h:vX K row vs)(h1:∀u∈vs,u.oneCell'=true):um K ⟨vs⟩ 0 row:=by
 intro j sv hj;obtain⟨u,hu,hd⟩:=Xo h hj;exact⟨u,by simpa using hu,h1 u (y8 hu),hd⟩
theorem X2{K:Env}{es:Nat}{rs:List (List SV)}{vs:List Value}(h:uk K es rs vs)(h1:∀u∈vs,u.oneCell'=true):∀(i:Nat) (row:List SV),rs[i]?=some row->row.length=es/\um K ⟨vs⟩ (0+i*es) row:=by
 intro i row hi;obtain⟨h2,h3⟩:=D9 h hi;refine⟨h3,fun j sv hj=>?_⟩;obtain⟨u,hu,hd⟩:=h2 j sv hj;exact⟨u,by simpa using hu,h1 u (y8 hu),hd⟩
def YU(w:World)(o:Obj):World:={w with heap:=w.heap.push o}
section
variable {M:Mx}{K:Env}{w:World}{O:u0}{nx:Nat}{ρ:Operand->Value}{lk:Operand->Option SV}{v:SV}{O':u0}{vZ:Nat}{dst:Option Tmp}{ty:TypeId}{pos:String}{af:Array Edge}{gd:Option (Nat×Bool)}
theorem ZS{K:Env}{nx:Nat}(h:K.length=nx)(e:Option qJ):Env.get (K++ [e]) (.loc nx)=some e:=by
 subst h;simp[Env.get]
theorem IJ(H:vU M K w O nx)(e:TypeId){row:List SV}{vs:List Value}(h:vX K row vs)(h1:∀u∈vs,u.oneCell'=true):
 vU M (K++ [some ⟨w.heap.size,0,1⟩]) (YU w (.cells ⟨vs⟩ e)) ((nx, .box row)::O) (nx+1):=by
 refine H.alloc (w':=YU w (.cells ⟨vs⟩ e)) rfl rfl rfl rfl 0 1 ?_;simp only[vV];exact⟨_,⟨vs⟩,e,(0,0),ZS H.len _,Yo (w:=w) (w':=YU w (.cells ⟨vs⟩ e)) rfl,fun _=>UG _,(um.dL h h1).mono (zD _ _)⟩
theorem Fy(H:vU M K w O nx)(e:TypeId){es:Nat}{rs:List (List SV)}{vs:List Value}(cap:Nat){arr:Array Value}(hsz:arr.size=cap*es)(hcap:rs.length<=cap)
 (hr:∀(i:Nat) (row:List SV),rs[i]?=some row->row.length=es/\um K arr (0+i*es) row):
 vU M (K++ [some ⟨w.heap.size,0,cap⟩]) (YU w (.cells arr e)) ((nx, .rows es rs)::O) (nx+1):=by
 refine H.alloc (w':=YU w (.cells arr e)) rfl rfl rfl rfl 0 cap ?_;simp only[vV];right
 exact⟨_,arr,e,(0,0),ZS H.len _,Yo (w:=w) (w':=YU w (.cells arr e)) rfl,fun _=>⟨UG _,hsz,hcap,rfl⟩,fun i row hi=>⟨(hr i row hi).1,(hr i row hi).2.mono (zD _ _)⟩⟩
theorem P7(A:At M K w O nx ρ lk)(e:TypeId){v0:SV}{u:Value}(hd:Den K v0 u)(hr:(Fh M.C.T e nx v0).ok O nx v O' vZ):
 ∃η',K<+:η'/\vU M η' (YU w (.cells u.cells e)) O' vZ/\Den η' v (.pointer (some ⟨w.heap.size,0,none⟩))/\η'≠K:=by
 have sH:∀(es:Nat) (cap:Nat),Den (K++ [some ⟨w.heap.size,0,cap⟩]) (.ptr (.loc nx) 0 es 0) (.pointer (some ⟨w.heap.size,0,none⟩)):=by
  intro es cap;simp only[Den];exact⟨_,ZS A.H.len _,by simp⟩
 have K7:∀{h:Hp} {es:Nat},Fg M.C.T e v0=some h->(∀n q,M.C.T.sh e= .array n q->M.C.T.size q=es)->v= .ptr (.loc nx) 0 es 0->O'=(nx,h)::O->vZ=nx+1->∃η',K<+:η'/\vU M η' (YU w (.cells u.cells e)) O' vZ/\Den η' v (.pointer (some ⟨w.heap.size,0,none⟩))/\η'≠K:=by
  rintro h es hb wT rfl rfl rfl;unfold Fg at hb;split at hb
  .rename_i n q hs;split at hb
   case h_2=>cases hb
   rename_i cs;rw[hs]at hb;simp only at hb;split at hb
   case h_2=>cases hb
   rename_i rs hc;injection hb with hb;subst hb;simp only[Den]at hd;obtain⟨vs,rfl,h1,h2⟩:=hd;obtain⟨h3,h4,_⟩:=JA hc;have hl:=ZL h1;exact⟨_,zD _ _,Fy A.H e (vs:=vs) n (by show vs.length=_;rw[hl,h4]) (by omega) (X2 (Da hc h1) h2),sH _ _,by simp⟩
  cases hb
  .split at hb
   case h_2=>cases hb
   rename_i cs hc;injection hb with hb;subst hb;obtain⟨h1,h2⟩:=Uf hd hc;have:=IJ A.H e h1 h2;exact⟨_,zD _ _,by simpa using this,sH _ _,by simp⟩
 unfold Fh at hr;split at hr
 .rename_i n q es rs hs;split at hr
  case h_2=>exact hr.elim
  rename_i wT;have wT:=Zq wT;subst wT;obtain⟨hlen,rfl,rfl,rfl⟩:=hr;simp only[Den]at hd;obtain⟨vs,rfl,h1,h2⟩:=hd;have hl:=JB h1;exact⟨_,zD _ _,Fy A.H e (vs:=vs) n (by show vs.length=_;rw[hl,hlen]) (by omega) (X2 h1 h2),sH _ _,by simp⟩
 .rename_i n q v0' hs _;split at hr
  case h_2=>exact hr.elim
  rename_i h hb;obtain⟨e1,e2,e3⟩:=hr;exact K7 hb (fun n' q' h=>by rw[hs]at h;injection h with _ h;rw[h]) e1 e2 e3
 .rename_i hna _;split at hr
  case h_2=>exact hr.elim
  rename_i h hb;obtain⟨e1,e2,e3⟩:=hr;exact K7 hb (fun n' q' h=>absurd h (hna _ _)) e1 e2 e3
theorem IK(A:At M K w O nx ρ lk)(tb te:TypeId){v0:SV}{u:Value}(hd:Den K v0 u)(hr:(EO tb te nx v0).ok O nx v O' vZ):
 ∃η',K<+:η'/\vU M η' (YU w (.cells u.cells tb)) O' vZ/\Den η' v (.pointer (some ⟨w.heap.size,0,none⟩))/\η'≠K:=by
 unfold EO at hr;split at hr
 case h_2=>exact hr.elim
 obtain⟨rfl,rfl,rfl⟩:=hr;simp only[Den,vX]at hd;obtain⟨vs,rfl,⟨u1,us1,rfl,h1,u2,us2,rfl,h2,rfl⟩,_⟩:=hd;obtain⟨rfl,_⟩:=h1;obtain⟨rfl,_⟩:=h2;have hheap:(YU w (.cells #[.pointer none, .slice none 0 0] tb)).heap[w.heap.size]?=some (.cells #[.pointer none, .slice none 0 0] tb (0,0)):=Yo (w:=w) rfl;have hnew:(K++ [some (⟨w.heap.size,0,1⟩:qJ)]).get (.loc nx)=some (some ⟨w.heap.size,0,1⟩):=ZS A.H.len _
 have one:∀k,u5 (K++ [some ⟨w.heap.size,0,1⟩]) (YU w (.cells #[.pointer none, .slice none 0 0] tb)) (.loc nx) (.kH tb te []) k->k=w.heap.size:=fun k f=>by
  rcases f.of hnew with h|h
  exact h.symm
  .simp only[uC]at h;obtain⟨arr,T,fz,v,k1,k2,k3⟩:=h;rw[hheap]at k1;injection k1 with k1;injection k1 with k1;subst k1;simp at k2;subst k2;simp[Value.ownBlock]at k3
 refine⟨_,zD _ _,A.H.push (some ⟨w.heap.size,0,1⟩) (fun k hk=>P5 (w:=w) rfl hk) (by simp[YU]) rfl rfl rfl (zn _) ?_ (fun k f=> .inr ?_) (fun k f j g hj f'=>?_),?_,by simp⟩
 .simp only[vV];exact⟨_,hnew,rfl, .inl ⟨x8 _,_,hheap,⟨rfl, .inl ⟨rfl,rfl⟩⟩,by simp[Value.ownBlock]⟩⟩
 rw[one k f];exact A.H.fr.size
 .have:=(A.H.own.1 j g hj).1.uL f';rw[one k f]at this;omega
 .simp only[Den];exact⟨_,hnew,by simp⟩
theorem P8(A:At M K w O nx ρ lk)(e:TypeId){v0:SV}{u:Value}(hd:Den K v0 u)(hr:(newR M.C.T e nx v0).ok O nx v O' vZ):
 ∃η',K<+:η'/\vU M η' (YU w (.cells u.cells e)) O' vZ/\Den η' v (.pointer (some ⟨w.heap.size,0,none⟩))/\η'≠K:=by
 unfold newR at hr;split at hr
 .split at hr
  .rename_i h;rw[Zq h];exact IK A _ _ hd hr
  exact P7 A e hd hr
 exact P7 A e hd hr
theorem IL(A:At M K w O nx ρ lk)(e:TypeId)(hr:(wj M.C lk O nx (.alloc e)).ok O nx v O' vZ):Y9 M K w ⟨dst, .alloc e,ty,pos,af,gd⟩ ρ v O' vZ:=by
 simp only[wj,AZ]at hr;split at hr
 exact hr.elim;rename_i c cs hz;split at hr
 case h_2=>exact hr.elim
 rename_i v0 ho;have hsh:M.C.T.sh e≠ .other:=by intro h;simp[Yu,h]at ho
 obtain⟨i,z,h1,h2,h3⟩:=WB A.T hsh (by rw[hz];simp) (by rw[hz];exact ho) K;obtain⟨η',h4,h5,h6,h7⟩:=P8 A e h3 hr;exact⟨_,_,η', .inl (by simp[execOp,Instr.alloc,XH h1 h2,newVar,newRow];rfl),h4,h5,h6,fun _ h=>absurd h h7⟩
theorem IP(A:At M K w O nx ρ lk)(e:TypeId)(x:Operand)(hr:(wj M.C lk O nx (.box e x)).ok O nx v O' vZ):Y9 M K w ⟨dst, .box e x,ty,pos,af,gd⟩ ρ v O' vZ:=by
 simp only[wj,QT]at hr;split at hr
 case h_2=>exact hr.elim
 rename_i v0 hx;obtain⟨η',h4,h5,h6,h7⟩:=P8 A e (A.L _ _ hx) hr;exact⟨_,_,η', .inl (by simp[execOp,Instr.box,newVar,newRow];rfl),h4,h5,h6,fun _ h=>absurd h h7⟩
theorem P9:∀{row vs r:List SV},Wu row vs=some r->r=vs++row.drop vs.length/\vs.length<=row.length
 |row,[],r,h=>by simp only[Wu,zh]at h;subst h;simp
 | [],v::vs,r,h=>by simp[Wu]at h
 |x::row,v::vs,r,h=>by
  simp only[Wu]at h;cases e:Wu row vs with
  |none=>rw[e]at h;cases h
  |some q=>
   rw[e]at h;simp only[zh]at h;subst h;obtain⟨h1,h2⟩:=P9 e;subst h1;simp;omega
theorem JX:∀{c:Nat} {row vs r:List SV},V8 c row vs=some r->r=row.take c++vs++row.drop (c+vs.length)/\c+vs.length<=row.length
 |0,row,vs,r,h=>by
  simp only[V8]at h;obtain⟨h1,h2⟩:=P9 h;subst h1;simp;exact h2
 |c+1,[],vs,r,h=>by simp[V8]at h
 |c+1,x::row,vs,r,h=>by
  simp only[V8]at h;cases e:V8 c row vs with
  |none=>rw[e]at h;cases h
  |some q=>
   rw[e]at h;simp only[zh]at h;subst h;obtain⟨h1,h2⟩:=JX e;subst h1;rw[show c+1+vs.length=(c+vs.length)+1 by omega];simp;omega
theorem Pa(off:Nat):∀(vs:List Value) (k:Nat) (cur:Array Value),off+k+vs.length<=cur.size->
 ((vs.zipIdx k).foldl (fun cs (p:Value×Nat)=>cs.setIfInBounds (off+p.2) p.1) cur).toList=cur.toList.take (off+k)++vs++cur.toList.drop (off+k+vs.length)
 | [],k,cur,h=>by simp
 |v::vs,k,cur,h=>by
  have ih:=Pa off vs (k+1) (cur.setIfInBounds (off+k) v) (by simp at h⊢;omega);simp only[List.zipIdx_cons,List.foldl_cons];rw[ih];have:=list_seg_step cur.toList (off+k) v vs (by simp at h⊢;omega);simpa[xx,Nat.add_comm,Nat.add_left_comm]using this
theorem Fz{K:Env}{place:Nat->Option (Nat×Nat)}:∀{ps:List (Nat×SV)} {vs:List (Nat×Value)} {cells:List SV} {cur:Array Value} {cs:List SV},sy cells place ps=some cs->vX K cells cur.toList->(∀u∈cur.toList,u.oneCell'=true)->
 vs.length=ps.length->(∀(i:Nat) (p:Nat×SV),ps[i]?=some p->∃u,vs[i]?=some (p.1,u)/\Den K p.2 u)->
 ∃arr,Instr.fill place cur vs=some arr/\vX K cs arr.toList/\∀u∈arr.toList,u.oneCell'=true
 | [],vs,cells,cur,cs,h,hd,h1,hl,_=>by
   simp only[sy,zh]at h;subst h;obtain rfl:vs=[]:=zO.1 hl;exact⟨cur,rfl,hd,h1⟩
 |(i,sv)::ps,[],cells,cur,cs,h,hd,h1,hl,_=>by simp at hl
 |(i,sv)::ps,(i',u)::vs,cells,cur,cs,h,hd,h1,hl,hp=>by
  obtain⟨u',hu,eE⟩:=hp 0 (i,sv) rfl;simp at hu;obtain⟨rfl,rfl⟩:=hu;simp only[sy]at h;split at h
  case h_2=>cases h
  rename_i off size jB;split at h
  case h_2=>cases h
  rename_i ws IQ;split at h
  case h_2=>cases h
  rename_i cells' hlen hsp;have hlen:=qZ.1 hlen;obtain⟨rfl,hle⟩:=JX hsp;obtain⟨h2,h3⟩:=Uf eE IQ;have o9:=ZL h2;have IU:=ZL hd;have hsz:u.cells.size=size:=by rw[<-hlen,<-o9];simp
  have hfit:¬(off+u.cells.size>cur.size):=by
   have:u.cells.size=ws.length:=by rw[hsz,hlen]
   have h5:cur.size=cells.length:=by rw[<-IU];simp
   omega
  have aI:(u.cells.zipIdx.foldl (fun cs (x:Value×Nat)=>cs.setIfInBounds (off+x.2) x.1) cur).toList=cur.toList.take off++u.cells.toList++cur.toList.drop (off+u.cells.toList.length):=by
   have:=Pa off u.cells.toList 0 cur (by simp;omega);simp only[Nat.add_zero]at this;rw[<-this,<-Array.foldl_toList];simp
  have hd':vX K (cells.take off++ws++cells.drop (off+ws.length)) (cur.toList.take off++u.cells.toList++cur.toList.drop (off+u.cells.toList.length)):=by
   rw[o9];exact YJ (YJ (D5 hd) h2) (D4 hd)
  rw[<-aI]at hd'
  obtain⟨arr,h6,h7,h8⟩:=Fz (vs:=vs) h hd' (by
   rw[aI];intro x hx;rcases zX.1 hx with hx|hx
   .rcases zX.1 hx with hx|hx
    exact h1 x (List.mem_of_mem_take hx);exact h3 x hx
   exact h1 x (vC hx)) (by simpa using hl) (fun k p hk=>by simpa using hp (k+1) p (by simpa using hk))
  refine⟨arr,?_,h7,h8⟩;simp only[Instr.fill,jB];rw[z6 (by simp[hsz];simpa[hsz]using hfit)];exact h6
theorem Pb{ps:Array (Nat×Operand)}{eN:List (Nat×SV)}(hl:∀x sv,lk x=some sv->Den K sv (ρ x))(h:Fl lk ps=some eN):
 (ps.map fun p=>(p.1,ρ p.2)).toList.length=eN.length/\∀(i:Nat) (p:Nat×SV),eN[i]?=some p->∃u,(ps.map fun p=>(p.1,ρ p.2)).toList[i]?=some (p.1,u)/\Den K p.2 u:=by
 unfold Fl at h;simp only[Array.toList_map];generalize ps.toList=l at h⊢
 induction l generalizing eN with
 |nil=>simp only[qK,zh]at h;subst h;simp
 |cons p l ih=>
  simp only[qK]at h;split at h
  case h_2=>cases h
  rename_i q hq;split at hq
  case h_2=>cases hq
  rename_i sv kX;simp only[zh]at hq;subst hq;split at h
  case h_2=>cases h
  rename_i qs FA;simp only[zh]at h;subst h;obtain⟨h1,h2⟩:=ih FA;refine⟨by simpa using h1,?_⟩;intro i r hr;cases i with
  |zero=>simp at hr;subst hr;exact⟨ρ p.2,by simp,hl _ _ kX⟩
  |succ i=>simpa using h2 i r (by simpa using hr)
theorem Pc{J Y:Type}{P:Program}{w:World}(f:J->Sem Y)(g:J->Y):∀(l:List J),(∀x∈l,(f x).run P w= .ok (g x) w)->(l.mapM f).run P w= .ok (l.map g) w
 | [],_=>rfl
 |x::l,h=>by
  simp only[vO,Sem.run_bind,h x (by simp),Result.andThen_ok,Pc f g l (fun y hy=>h y (by simp[hy])),Sem.run_pure,zL]
theorem IV{T:qg}{P:Program}(hT:ux P T){t:TypeId}{fs:List (Nat×TypeId)}(hs:T.sh t= .struct fs){fields:Array Field}(hf:fields.toList.map (fun f=>(f.offset,f.type))=fs)(hok:∀p∈fs,T.sh p.2≠ .other)(w:World):
 (fields.mapM fun f=>do pure (f.offset,<-sizeOf f.type):Sem (Array (Nat×Nat))).run P w= .ok (fields.map fun f=>(f.offset,T.size f.type)) w:=by
 rw[Array.mapM_eq_mapM_toList];simp only[Sem.run_map];rw[Pc (g:=fun f:Field=>(f.offset,T.size f.type))];simp only[Result.andThen_ok,Result.ok.injEq,vp];apply yC;simp
 .intro f Dg;have:T.sh f.type≠ .other:=hok (f.offset,f.type) (by rw[<-hf];exact xu (f:=fun f:Field=>(f.offset,f.type)) Dg);obtain⟨i,hi,hsz,_⟩:=hT.info f.type this;simp[Zr hi,hsz]
theorem IX(A:At M K w O nx ρ lk)(t:TypeId)(ps:Array (Nat×Operand))(hr:(wj M.C lk O nx (.build t ps)).ok O nx v O' vZ):Y9 M K w ⟨dst, .build t ps,ty,pos,af,gd⟩ ρ v O' vZ:=by
 simp only[wj,O3]at hr;split at hr
 exact hr.elim;rename_i eN hps;split at hr
 exact hr.elim;rename_i c cs hz;obtain⟨jB,mL⟩:=Pb A.L hps;split at hr
 .rename_i fs hs;split at hr
  case h_2=>exact hr.elim
  rename_i cs' hf;have hsh:M.C.T.sh t≠ .other:=by rw[hs];simp
  obtain⟨i,z,h1,h2,h3,h4,_⟩:=A.T.zero t hsh (by rw[hz];simp);rw[hz]at h3;obtain⟨d,hd,hm⟩:=A.T.qY t hsh;rw[hs]at hm;simp only[qV]at hm;obtain⟨fields,rfl,o8,hok⟩:=hm
  have fP:(fun i=>(fields.map fun f=>(f.offset,M.C.T.size f.type))[i]?)=Wz M.C.T fs:=by
   funext i;unfold Wz;rw[V9,<-o8,z7];cases hq:fields.toList[i]? with
   |none=>simp at hq;simp[hq]
   |some f=>simp at hq;simp[hq]
  obtain⟨arr,h5,h6,h7⟩:=Fz hf (vX.mono (xq) h3) h4 jB mL;refine A.val hr ⟨.agg arr, .inl ?_,?_⟩
  .rw[<-fP]at h5;have K8:=IV A.T hs o8 hok w;simp only[execOp,Instr.build,Sem.run_bind,XH h1 h2,Result.andThen_ok,Z5 hd,K8,h5,Sem.run_pure]
  simp only[Den];exact⟨arr.toList,rfl,h6,h7⟩
 .rename_i n e hs;split at hr
  case h_2=>exact hr.elim
  rename_i cs' hf;have hsh:M.C.T.sh t≠ .other:=by rw[hs];simp
  obtain⟨i,z,h1,h2,h3,h4,_⟩:=A.T.zero t hsh (by rw[hz];simp);rw[hz]at h3;obtain⟨d,hd,hm⟩:=A.T.qY t hsh;rw[hs]at hm;simp only[qV]at hm;obtain⟨rfl,hsz,hok⟩:=hm;obtain⟨ie,hie,uV,_⟩:=A.T.info e hok;obtain⟨arr,h5,h6,h7⟩:=Fz hf (vX.mono (xq) h3) h4 jB mL;refine A.val hr ⟨.agg arr, .inl ?_,?_⟩
  .have fP:(fun i=>some (i*M.C.T.size e,M.C.T.size e))=UE M.C.T e:=rfl;rw[<-fP]at h5;simp only[execOp,Instr.build,Sem.run_bind,XH h1 h2,Result.andThen_ok,Z5 hd,Zr hie,uV,h5,Sem.run_pure]
  simp only[Den];exact⟨arr.toList,rfl,h6,h7⟩
 exact hr.elim
end
def XD(z:List Value)(n:Nat):List Value:=(List.range (n*z.length)).map fun i=>z.getD (i%z.length) undef
theorem VB(z:Array Value)(n k:Nat)(h:k=n*z.size):((Array.range k).map fun i=>z[i%z.size]!).toList=XD z.toList n:=by
 subst h;unfold XD;simp only[Array.toList_map,Array.toList_range,Array.length_toList];apply zZ;intro i hi
 have hpos:0<z.size:=by
  rcases vm z.size with h|h
  rw[h]at hi;simp at hi;exact h
 have hlt:=Nat.mod_lt i hpos;rw[getElem!_pos z (i%z.size) hlt];simp[List.getD,hlt]
theorem WX(z:List Value)(n:Nat):(XD z n).length=n*z.length:=by simp[XD]
theorem Dh{z:List Value}{n i j:Nat}(hi:i<n)(hj:j<z.length):(XD z n)[i*z.length+j]?=z[j]?:=by
 have h1:i*z.length+j<n*z.length:=by
  have:(i+1)*z.length<=n*z.length:=yl _ hi;rw[yB]at this;omega
 have h2:(i*z.length+j)%z.length=j:=by rw[vw,Nat.mul_add_mod];exact Nat.mod_eq_of_lt hj
 unfold XD;rw[z7,yz h1];simp[h2,hj]
theorem Di{z:List Value}(h:∀u∈z,u.oneCell'=true)(n:Nat):∀u∈XD z n,u.oneCell'=true:=by
 intro u hu;unfold XD at hu;obtain⟨i,hi,rfl⟩:=zM.1 hu
 have hpos:0<z.length:=by
  rcases vm z.length with h|h
  rw[h]at hi;simp at hi;exact h
 have hlt:=Nat.mod_lt i hpos;simp only[List.getD,z1 hlt,Option.getD_some];exact h _ (zq hlt)
theorem Pf(z:List Value)(n:Nat):XD z (n+1)=z++XD z n:=by
 apply yj;intro k;by_cases hk:k< (n+1)*z.length
 .have hpos:0<z.length:=by
   rcases vm z.length with h|h
   rw[h]at hk;simp at hk;exact h
  have hd:=Nat.div_add_mod k z.length;have hm:=Nat.mod_lt k hpos;have hq:k/z.length<n+1:=(Nat.div_lt_iff_lt_mul hpos).2 hk;have e:k=k/z.length*z.length+k%z.length:=by rw[vw];exact hd.symm
  rw[e,Dh hq hm];by_cases h0:k/z.length=0
  rw[h0,yQ,zw,zu hm]
  .obtain⟨q,r8⟩:=Nat.exists_eq_succ_of_ne_zero h0;rw[r8,yB,zz (by omega)];rw[show q*z.length+z.length+k%z.length-z.length=q*z.length+k%z.length by omega];rw[Dh (by omega) hm]
 rw[yd (by rw[WX];omega),yd (by rw[ze,WX];rw[yB]at hk;omega)]
theorem Pg{K:Env}{z:List SV}{vs:List Value}(h:vX K z vs):∀n,vX K (fE n z) (XD vs n)
 |0=>by simp[fE,XD,vX]
 |n+1=>by
  rw[Pf];simp only[fE];exact YJ h (Pg h n)
section
variable {M:Mx}{K:Env}{w:World}{O:u0}{nx:Nat}{ρ:Operand->Value}{lk:Operand->Option SV}{v:SV}{O':u0}{vZ:Nat}{dst:Option Tmp}{ty:TypeId}{pos:String}{af:Array Edge}{gd:Option (Nat×Bool)}
theorem Ug(hlen:K.length=nx){w:World}{es len cap:Nat}(h:len<=cap):Den (K++ [some ⟨w.heap.size,0,cap⟩]) (.sl (.loc nx) 0 es len none) (.slice (some ⟨w.heap.size,0,none⟩) len cap):=by
 simp only[Den];right
 exact⟨_,0,ZS hlen _,by simp,by simpa using h,by simp,by simp⟩
theorem IY(A:At M K w O nx ρ lk)(t:TypeId)(len:Nat)(ps:Array (Nat×Operand))(hr:(wj M.C lk O nx (.buildSlice t len ps)).ok O nx v O' vZ):Y9 M K w ⟨dst, .buildSlice t len ps,ty,pos,af,gd⟩ ρ v O' vZ:=by
 simp only[wj,O4]at hr;split at hr
 exact hr.elim;rename_i eN hps;obtain⟨jB,mL⟩:=Pb A.L hps;split at hr
 case h_2=>exact hr.elim
 rename_i e hs;obtain⟨d,hd,hm⟩:=A.T.qY t (by rw[hs];simp);rw[hs]at hm;simp only[qV]at hm;subst hm;split at hr
 exact hr.elim;rename_i c cs hz;split at hr
 exact hr.elim;rename_i hle;have hle:=zP hle;split at hr
 exact hr.elim;rename_i cs' hf;split at hr
 case h_2=>exact hr.elim
 rename_i rs hch;obtain⟨rfl,rfl,rfl⟩:=hr;have hsh:M.C.T.sh e≠ .other:=A.T.r5 e (by rw[hz];simp);obtain⟨ie,z,h1,h2,h3,h4,h5,_⟩:=A.T.zero e hsh (by rw[hz];simp);rw[hz]at h3 h5;obtain⟨Dj,hie,uV,_⟩:=A.T.info e hsh;rw[h1]at hie;injection hie with hie;subst hie
 have h3:=vX.mono (η':=K) xq h3;have hzl:z.cells.toList.length=M.C.T.size e:=by rw[ZL h3,h5]
 have hzs:z.cells.size=M.C.T.size e:=by simpa using hzl
 obtain⟨arr,h6,h7,h8⟩:=Fz (cur:=⟨XD z.cells.toList len⟩) hf (Pg h3 len) (Di h4 len) jB mL;obtain⟨hc1,Dk,_⟩:=JA hch;have hal:=ZL h7;refine⟨_,YU w (.cells arr e),_, .inl ?_,zD _ _,Fy A.H e (vs:=arr.toList) len (by rw[Dk]at hal;simpa using hal) (by omega) (X2 (Da hch h7) h8),Ug A.H.len (zn _),fun _ h=>absurd h (by simp)⟩;have fP:(fun i=>some (i*M.C.T.size e,M.C.T.size e))=UE M.C.T e:=rfl;rw[<-fP]at h6;have hn:¬(len*M.C.T.size e>16777216):=by omega
 have hcells:len*M.C.T.size e≠0->((Array.range (len*M.C.T.size e)).map fun i=>z.cells[i%z.cells.size]!)=⟨XD z.cells.toList len⟩:=by
  intro h0;apply yC;exact VB z.cells len _ (by rw[hzs])
 by_cases h0:len*M.C.T.size e=0
 .have hnil:XD z.cells.toList len=[]:=by apply zO.1;rw[WX,hzl,h0]
  rw[hnil]at h6;simp only[Array.toList_map]at h6;simp[execOp,Instr.buildSlice,Z5 hd,Zr h1,uV,h0,Array.range_zero',h6,newRow,YU]
 .have hc:=hcells h0;simp only[execOp,Instr.buildSlice,Sem.run_bind,Z5 hd,Result.andThen_ok,Zr h1,uV,Sem.run_ite,gt_iff_lt];rw[z6 (by simpa using hn),z6 h0];simp only[Sem.run_bind,XH h1 h2,Result.andThen_ok,Sem.run_pure,hc,h6,newRow,run_newObj]
  rfl
theorem IZ(A:At M K w O nx ρ lk)(t:TypeId)(l c:Operand)(hr:(wj M.C lk O nx (.makeSlice t l c)).ok O nx v O' vZ):Y9 M K w ⟨dst, .makeSlice t l c,ty,pos,af,gd⟩ ρ v O' vZ:=by
 simp only[wj,Od]at hr;split at hr
 case h_2=>exact hr.elim
 rename_i e hs;obtain⟨d,hd,hm⟩:=A.T.qY t (by rw[hs];simp);rw[hs]at hm;simp only[qV]at hm;subst hm;split at hr
 exact hr.elim;rename_i zc zs hz;split at hr
 case h_2=>exact hr.elim
 rename_i k1 ln hl;split at hr
 case h_2=>exact hr.elim
 rename_i k2 cp hc;obtain⟨⟨b0,b1,b2,b3⟩,rfl,rfl,rfl⟩:=hr;have hlv:=Jz (A.L _ _ hl);have mM:=Jz (A.L _ _ hc);have hsh:M.C.T.sh e≠ .other:=A.T.r5 e (by rw[hz];simp);obtain⟨ie,z,h1,h2,h3,h4,h5,_⟩:=A.T.zero e hsh (by rw[hz];simp);rw[hz]at h3 h5;obtain⟨Dj,hie,uV,fQ⟩:=A.T.info e hsh;rw[h1]at hie;injection hie with hie;subst hie
 have h3:=vX.mono (η':=K) xq h3;have hzl:z.cells.toList.length=M.C.T.size e:=by rw[ZL h3,h5]
 have hzs:z.cells.size=M.C.T.size e:=by simpa using hzl
 have w1:IntKind.i64.wrap ln=ln:=IntWalk.i64_in _ ⟨by omega,by omega⟩;have w2:IntKind.i64.wrap cp=cp:=IntWalk.i64_in _ ⟨by omega,by omega⟩
 refine⟨.slice (some ⟨w.heap.size,0,none⟩) ln.toNat cp.toNat,YU w (.cells ⟨XD z.cells.toList cp.toNat⟩ e),_, .inl ?_,zD _ _,
  Fy A.H e (vs:=[]) (rs:=List.replicate cp.toNat (zc::zs)) cp.toNat (by show(XD _ _).length=_;rw[WX,hzl]) (by simp) ?_,Ug A.H.len (by omega),fun _ h=>absurd h (by simp)⟩
 .have hm:=run_make (P:=M.P) w t e ie z hd h1 h2 k1 k2 ln cp b0 b1 (by rw[fQ];exact b3) b2
  have hc:madeCells z.cells (cp.toNat*ie.size)=⟨XD z.cells.toList cp.toNat⟩:=by
   apply yC;unfold madeCells;have:=VB z.cells cp.toNat (cp.toNat*ie.size) (by rw[uV,hzs])
   first|exact this|(split<;>simp_all)
  rw[hc]at hm;simp only[execOp,hlv,mM,Sem.run_bind,hm,Result.andThen_ok,Sem.run_pure]
  rfl
 .intro i row hi;have hi':=zg.1 hi;obtain⟨hlt,hrow⟩:=hi';simp only[xw]at hrow;subst hrow;simp only[zT]at hlt;refine⟨h5,fun j sv hj=>?_⟩;obtain⟨u,hu,eE⟩:=Xo h3 hj;refine⟨u,?_,h4 u (y8 hu),eE⟩;have hjl:=(zg.1 hu).1;have:=Dh (z:=z.cells.toList) hlt hjl;rw[hzl]at this;rw[zw];rw[yJ,this];exact hu
theorem Ph{K:Env}{arr:Array Value}{o c:Nat}{row vs:List SV}{us:List Value}(hc:um K arr o row)(hd:vX K vs us)(h1:∀u∈us,u.oneCell'=true)(hle:c+vs.length<=row.length)(hfit:o+c+us.length<=arr.size):
 um K (arr.toList.take (o+c)++us++arr.toList.drop (o+c+us.length)).toArray o (row.take c++vs++row.drop (c+vs.length)):=by
 have hl:=ZL hd;intro j sv hj
 have kJ:∀k,(arr.toList.take (o+c)++us++arr.toList.drop (o+c+us.length))[o+k]?=if k<c then arr[o+k]? else if k<c+us.length then us[k-c]? else arr[o+k]?:=by
  intro k;have ht:(arr.toList.take (o+c)).length=o+c:=by rw[zA];simp;omega
  rw[zR];split
  rw[zu (by omega),y4,z8 (by omega)];simp
  .rw[zz (by omega),ht];split
   rw[zu (by omega)];congr 1;omega
   .rw[zz (by omega),ye];rw[show o+c+us.length+(o+k-(o+c)-us.length)=o+k by omega];simp
 have hrow:(row.take c++vs++row.drop (c+vs.length))[j]?=if j<c then row[j]? else if j<c+vs.length then vs[j-c]? else row[j]?:=by
  have ht:(row.take c).length=c:=by rw[zA];omega
  rw[zR];split
  rw[zu (by omega),y4,z8 (by omega)]
  .rw[zz (by omega),ht];split
   rw[zu (by omega)]
   .rw[zz (by omega),ye];congr 1;omega
 rw[hrow]at hj;have hg:=kJ j;rw[<-hl]at hj
 have key:∀x,(if j<c then arr[o+j]? else if j<c+us.length then us[j-c]? else arr[o+j]?)=some x->(arr.toList.take (o+c)++us++arr.toList.drop (o+c+us.length)).toArray[o+j]?=some x:=by
  intro x hx;rw[<-hx,<-hg];simp
 split at hj
 .rename_i h;obtain⟨u,h2,h3,h4⟩:=hc j sv hj;exact⟨u,key u (by rw[z8 h];exact h2),h3,h4⟩
 .rename_i h;split at hj
  .rename_i h';obtain⟨u,h2,h3⟩:=Xo hd hj;exact⟨u,key u (by rw[z6 h,z8 h'];exact h2),h1 u (y8 h2),h3⟩
  .rename_i h';obtain⟨u,h2,h3,h4⟩:=hc j sv hj;exact⟨u,key u (by rw[z6 h,z6 h'];exact h2),h3,h4⟩
theorem Dl{K:Env}{arr:Array Value}{o p n:Nat}{row:List SV}{us:List Value}(hc:um K arr o row)(hr:row.length=n)(hfit:p+us.length<=arr.size)(hoff:o+n<=p\/p+us.length<=o):
 um K (arr.toList.take p++us++arr.toList.drop (p+us.length)).toArray o row:=by
 intro j sv hj;obtain⟨u,h2,h3,h4⟩:=hc j sv hj;refine⟨u,?_,h3,h4⟩;have hjl:=(zg.1 hj).1;have ht:(arr.toList.take p).length=p:=by rw[zA];simp;omega
 simp only[zR,yJ];rcases hoff with h|h
 rw[zu (by omega),y4,z8 (by omega)];simpa using h2
 .rw[zz (by omega),ht,zz (by omega),ye];rw[show p+us.length+(o+j-p-us.length)=o+j by omega];simpa using h2
end
section
variable {M:Mx}{K:Env}{w:World}{O:u0}{nx:Nat}{ρ:Operand->Value}{lk:Operand->Option SV}{v:SV}{O':u0}{vZ:Nat}{dst:Option Tmp}{ty:TypeId}{pos:String}{af:Array Edge}{gd:Option (Nat×Bool)}
theorem JC(K:Env):Den K (.uI []) undef:=by
 simp only[Den,vX];exact⟨[],rfl,rfl⟩
theorem Pj{arr:Array Value}{es r c:Nat}{rs:List (List SV)}{row vs:List SV}{us:List Value}{cap:Nat}(hsz:arr.size=cap*es)(hcap:rs.length<=cap)
 (hr:∀(i:Nat) (row:List SV),rs[i]?=some row->row.length=es/\um K arr (0+i*es) row) (hrow:rs[r]?=some row) (hd:vX K vs us) (h1:∀u∈us,u.oneCell'=true) (hle:c+vs.length<=row.length):
 r*es+c+us.length<=arr.size/\
 ∀(i:Nat) (q:List SV),(rs.set r (row.take c++vs++row.drop (c+vs.length)))[i]?=some q->q.length=es/\um K (arr.toList.take (r*es+c)++us++arr.toList.drop (r*es+c+us.length)).toArray (0+i*es) q:=by
 have hl:=ZL hd;have hlt:=(zg.1 hrow).1;obtain⟨hre,hrc⟩:=hr r row hrow
 have hfit:r*es+c+us.length<=arr.size:=by
  have:(r+1)*es<=cap*es:=yl _ (by omega);rw[yB]at this;omega
 refine⟨hfit,?_⟩;intro i q hi;rw[xl]at hi;split at hi
 .rename_i e;subst e;simp only[hlt,yH,zh]at hi;subst hi;refine⟨?_,?_⟩;simp only[ze,zA,zW];omega
  .have:=Ph (o:=0+r*es) hrc hd h1 hle (by rw[zw];exact hfit);simpa only[zw]using this
 .rename_i e;obtain⟨Pk,hqc⟩:=hr i q hi;refine⟨Pk,Dl (o:=0+i*es) hqc Pk hfit ?_⟩;rcases Nat.lt_or_gt_of_ne e with h|h
  .right
   have:(r+1)*es<=i*es:=yl _ h;rw[yB]at this;omega
  .left
   have:(i+1)*es<=r*es:=yl _ h;rw[yB]at this;omega
theorem Pm(A:At M K w O nx ρ lk)(t:TypeId)(x y:Operand){p sv:SV}(hsh:M.C.T.sh t≠ .other)(pq:¬M.C.T.size t=0)(hx:lk x=some p)(hy:lk y=some sv)(hr:(Fc M.C.T (fun i=>u6 i O) t p sv).ok O nx v O' vZ):Y9 M K w ⟨dst, .store t x y,ty,pos,af,gd⟩ ρ v O' vZ:=by
 have uu:=A.L _ _ hx;have qC:=A.L _ _ hy;unfold Fc at hr;split at hr
 case h_2=>exact hr.elim
 rename_i mN i r es c;simp only[Den]at uu;obtain⟨en,hb,uu⟩:=uu;simp only[Env.get]at hb
 have step:∀{h0 h:Hp} {arr:Array Value} {tt:TypeId} {fz:Nat×Nat} {us:List Value},u6 i O=some h0->w.heap[en.g]?=some (.cells arr tt fz)->JW arr.size fz->(ρ y).cells.toList=us->us.length=M.C.T.size t->
  (∀u∈us,u.oneCell'=true)->en.base+(r*es+c)+us.length<=arr.size->
  (∀w':World,w'.heap[en.g]?=some (.cells (arr.toList.take (en.base+(r*es+c))++us++arr.toList.drop (en.base+(r*es+c)+us.length)).toArray tt fz)->vV K w' true (.loc i) h)->sG h=true->v= .uI []->O'=uO i h O->vZ=nx->
  Y9 M K w ⟨dst, .store t x y,ty,pos,af,gd⟩ ρ v O' vZ:=by
  intro h0 h arr tt fz us h1 h2 h3 h4 h5 h7 h8 h9 hl e1 e2 e3;subst e1 e2 e3;obtain⟨ie,hie,uV,_⟩:=A.T.info t hsh;have hst:=YR (P:=M.P) en.g (en.base+(r*es+c)) tt fz us 0 arr w h2 (by simpa using h8) h3 h7;simp only[Nat.add_zero]at hst;refine⟨undef,w.setRow en.g _,K, .inr ⟨?_,rfl⟩,zx,A.H.jK h1 hb (fun k hk=>setRow_other w en.g k _ hk) (setRow_size _ _ _) rfl rfl rfl (h9 _ (setRow_heap w en.g arr _ tt fz h2)) (hl:=hl),JC K,fun h=>by cases h⟩
  have hcs:(ρ y).cells.size=ie.size:=by
   have:(ρ y).cells.toList.length=M.C.T.size t:=by rw[h4,h5]
   rw[uV];simpa using this
  simp only[execOp,uu,Instr.storeAt,Instr.sureAddr,storeVar,Sem.run_bind,Sem.run_pure,Result.andThen_ok,Zr hie,Sem.run_ite,hcs];rw[z6 (by simp)];simp only[Sem.run_bind,Sem.run_pure,Result.andThen_ok,h4,hst]
 split at hr
 .rename_i row hh;obtain⟨uc,_⟩:=A.H.own.1 i _ hh;simp only[vV]at uc;obtain⟨eP,arr,T,fz,h1,h2,h3,h4⟩:=uc;simp only[Env.get]at h1;rw[hb]at h1;injection h1 with h1;injection h1 with h1;subst h1
  split at hr
  case h_2=>exact hr.elim
  rename_i vs hz hvs;have hz:=Zq hz;subst hz;split at hr
  case h_2=>exact hr.elim
  rename_i row' hlen hsp;have hlen:=qZ.1 hlen;obtain⟨rfl,hle⟩:=JX hsp;obtain⟨e1,e2,e3⟩:=hr;obtain⟨h5,h6⟩:=Uf qC hvs;have hl:=ZL h5
  have hfit:en.base+c+(ρ y).cells.toList.length<=arr.size:=by
   rw[hl];obtain⟨u,hu,_⟩:=h4 (c+vs.length-1) _ (z1 (by omega));have:=(zC.1 hu).1;omega
  refine step hh h2 (h3 trivial) rfl (by rw[hl,hlen]) h6 (by rw[yQ,zw];exact hfit) ?_ rfl e1 e2 e3;intro w' hw';rw[yQ,zw]at hw';simp only[vV];refine⟨en,_,T,fz,hb,hw',fun _=>?_,Ph h4 h5 h6 hle hfit⟩
  have:(arr.toList.take (en.base+c)++(ρ y).cells.toList++arr.toList.drop (en.base+c+(ρ y).cells.toList.length)).toArray.size=arr.size:=by
   simp only[yc,ze,zA,zW,Array.length_toList]at hfit⊢;omega
  rw[this];exact h3 trivial
 .rename_i es' rs hh;obtain⟨uc,_⟩:=A.H.own.1 i _ hh;simp only[vV]at uc;split at hr
  case h_2=>exact hr.elim
  rename_i wT;have wT:=Zq wT;subst wT;simp only[Env.get]at uc;rcases uc with⟨h1,_⟩|⟨eP,arr,T,fz,h1,h2,h3,h4⟩
  rw[hb]at h1;cases h1;rw[hb]at h1;injection h1 with h1;injection h1 with h1;subst h1
  obtain⟨FB,Dm,Dn,K9⟩:=h3 trivial;rw[K9]at h4 step
  have hsize:∀{o:Nat} {us:List Value},o+us.length<=arr.size->(arr.toList.take o++us++arr.toList.drop (o+us.length)).toArray.size=arr.size:=by
   intro o us h;simp only[yc,ze,zA,zW,Array.length_toList];omega
  have one:∀{hr:(match cellsOf sv with
   |some vs=>match Wa vs (M.C.T.size t)with
    |true=>uz.get rs r fun row=>match V8 c row vs with
     |some row=> .jK i (.rows es (rs.set r row)) (.uI [])
     |none=> .fail
    |false=> .fail
   |none=> .fail).ok O nx v O' vZ},Y9 M K w ⟨dst, .store t x y,ty,pos,af,gd⟩ ρ v O' vZ:=by
   intro hr;split at hr
   case h_2=>exact hr.elim
   rename_i vs hvs;split at hr
   case h_2=>exact hr.elim
   rename_i hlen;have hlen:=qZ.1 hlen;obtain⟨row,hrow,hr⟩:=hr;simp only at hr;split at hr
   case h_2=>exact hr.elim
   rename_i row' hsp;obtain⟨rfl,hle⟩:=JX hsp;obtain⟨e1,e2,e3⟩:=hr;obtain⟨h5,h6⟩:=Uf qC hvs;have hl:=ZL h5;obtain⟨hfit,hrows⟩:=Pj Dm Dn h4 hrow h5 h6 hle;refine step hh h2 FB rfl (by rw[hl,hlen]) h6 (by rw[zw];exact hfit) ?_ rfl e1 e2 e3;intro w' hw';rw[zw]at hw';simp only[vV];right
   have hz:=hsize hfit;exact⟨en,_,T,fz,hb,hw',fun _=>⟨by rw[hz];exact FB,by rw[hz];exact Dm,by simpa using Dn,K9⟩,by rw[K9];exact hrows⟩
  have whole:∀{rs':List (List SV)} {us:List Value},rs'.length=rs.length->r=0->c=0->(ρ y).cells.toList=us->us.length=M.C.T.size t->uk K es rs' us->(∀u∈us,u.oneCell'=true)->v= .uI []->O'=uO i (.rows es rs') O->vZ=nx->
   Y9 M K w ⟨dst, .store t x y,ty,pos,af,gd⟩ ρ v O' vZ:=by
   intro rs' us q1 q2 q3 q4 q5 q6 q7 e1 e2 e3;subst q2 q3;have hl:=JB q6
   have hfit:0+us.length<=arr.size:=by
    have:rs.length*es<=en.cap*es:=yl _ Dn;rw[hl,q1];omega
   refine step hh h2 FB q4 q5 q7 (by rw[yQ];exact hfit) ?_ rfl e1 e2 e3;intro w' hw';simp only[vV];right
   have hz:=hsize hfit;simp only[yQ,Nat.add_zero]at hw';refine⟨en,_,T,fz,hb,hw',fun _=>⟨by rw[hz];exact FB,by rw[hz];exact Dm,by omega,K9⟩,?_⟩;rw[K9];intro k row hk;obtain⟨p1,p2⟩:=X2 q6 q7 k row hk;refine⟨p1,fun j mN hj=>?_⟩;obtain⟨u,p3,p4,p5⟩:=p2 j mN hj;refine⟨u,?_,p4,p5⟩;have hlt:=(zC.1 p3).1;simp only[List.take_zero,List.nil_append,yJ];rw[zu (by simpa using hlt)];simpa using p3
  split at hr
  .rename_i n e hs;split at hr
   case h_2=>exact hr.elim
   rename_i eO hst;have eO:=Zq eO;have hst:=Zq hst;split at hr
   .rename_i fF rs';obtain⟨⟨q1,q2,rfl,q3,q4⟩,e1,e2,e3⟩:=hr;simp only[Den]at qC;obtain⟨us,qC,q5,q6⟩:=qC;refine whole (us:=us) (by omega) q1 q2 (by rw[qC];rfl) ?_ q5 q6 e1 e2 e3;rw[JB q5,q3,hst]
   .rename_i cs;split at hr
    case h_2=>exact hr.elim
    rename_i rs' hch;obtain⟨⟨q1,q2,q3⟩,e1,e2,e3⟩:=hr;simp only[Den]at qC;obtain⟨us,qC,q5,q6⟩:=qC;obtain⟨q7,q8,_⟩:=JA hch;refine whole (us:=us) (by omega) q1 q2 (by rw[qC];rfl) ?_ (Da hch q5) q6 e1 e2 e3;rw[ZL q5,q8,hst]
   exact hr.elim
  exact one (hr:=hr)
 exact hr.elim
end
def oK:CK->SV->SV->Option Bool
 | .int k, .int k1 a, .int k2 b=>match XF k k1&&XF k k2 with|true=>some (a==b)|false=>none
 | .str, .str a, .str b=>some (a==b)
 | .bool, .bool a, .bool b=>some (a==b)
 |_,_,_=>none
def both:Option Bool->Option Bool->Option Bool
 |some a,some b=>some (a&&b)
 |_,_=>none
theorem Zcs{a b:Option Bool}:(both a b).isSome=true<->a.isSome=true/\b.isSome=true:=by cases a<;>cases b<;>simp[both]
theorem Zct{a b:Option Bool}:both a b=some true<->a=some true/\b=some true:=by cases a<;>cases b<;>simp[both]
theorem Pn{k:CK}{ks:List CK}{x y:SV}{xs ys:List SV}:Zi (k::ks) (x::xs) (y::ys)=both (oK k x y) (Zi ks xs ys):=by
 cases k with
 |int k=>
  cases x with
  |int k1 a=>
   cases y with
   |int k2 b=>
    simp only[Zi,oK];cases XF k k1&&XF k k2<;>cases Zi ks xs ys<;>rfl
   |_=>rfl
  |_=>rfl
 |str=>
  cases x with
  |str a=>
   cases y with
   |str b=>simp only[Zi,oK];cases Zi ks xs ys<;>rfl
   |_=>rfl
  |_=>rfl
 |bool=>
  cases x with
  |bool a=>
   cases y with
   |bool b=>simp only[Zi,oK];cases Zi ks xs ys<;>rfl
   |_=>rfl
  |_=>rfl
theorem Zfk{k:CK}{x y:SV}(h1:(oK k x x).isSome=true)(h2:(oK k y y).isSome=true):(oK k x y).isSome=true:=by
 cases k with
 |int k=>
  cases x with
  |int k1 a=>
   cases y with
   |int k2 b=>
    simp only[oK]at h1 h2⊢;cases e1:XF k k1<;>cases e2:XF k k2<;>simp_all
   |_=>cases h2
  |_=>cases h1
 |str=>
  cases x with
  |str a=>cases y with
   |str b=>rfl
   |_=>cases h2
  |_=>cases h1
 |bool=>
  cases x with
  |bool a=>cases y with
   |bool b=>rfl
   |_=>cases h2
  |_=>cases h1
theorem ZaR{K:Env}{k:CK}{x y:SV}{u v:Value}(h:oK k x y=some true)(h1:Den K x u)(h2:Den K y v):u=v/\∀n,Instr.sameBits n u u=true:=by
 cases k with
 |int k=>
  cases x with
  |int k1 a=>
   cases y with
   |int k2 b=>
    simp only[oK]at h;split at h
    .rename_i hk;simp only[zk,qc]at hk;simp only[zh,xC]at h;simp only[Den]at h1 h2;obtain⟨e1,e2⟩:=hk;subst h1;subst h2;subst h;subst e1;subst e2;exact⟨rfl,fun n=>by cases n<;>simp[Instr.sameBits]⟩
    cases h
   |_=>cases h
  |_=>cases h
 |str=>
  cases x with
  |str a=>cases y with
   |str b=>
    simp only[oK,zh,xC]at h;simp only[Den]at h1 h2;subst h1;subst h2;subst h;exact⟨rfl,fun n=>by cases n<;>(show(a.toArray==a.toArray)=true;simp)⟩
   |_=>cases h
  |_=>cases h
 |bool=>
  cases x with
  |bool a=>cases y with
   |bool b=>
    simp only[oK,zh,xC]at h;simp only[Den]at h1 h2;subst h1;subst h2;subst h;exact⟨rfl,fun n=>by cases n<;>simp[Instr.sameBits]⟩
   |_=>cases h
  |_=>cases h
theorem Po:∀{ks:List CK} {xs ys:List SV},(Zi ks xs xs).isSome=true->(Zi ks ys ys).isSome=true->(Zi ks xs ys).isSome=true
 | [],xs,ys,h1,h2=>by cases xs<;>cases ys<;>simp_all[Zi]
 |k::ks,[],ys,h1,h2=>by cases k<;>simp[Zi]at h1
 |k::ks,x::xs,[],h1,h2=>by cases k<;>simp[Zi]at h2
 |k::ks,x::xs,y::ys,h1,h2=>by
  rw[Pn,Zcs]at h1 h2⊢;exact⟨Zfk h1.1 h2.1,Po h1.2 h2.2⟩
theorem Uh{K:Env}:∀{ks:List CK} {xs ys:List SV} {us vs:List Value},Zi ks xs ys=some true->vX K xs us->vX K ys vs->us=vs/\∀u∈us,∀n,Instr.sameBits n u u=true
 | [],[],[],us,vs,h,h1,h2=>by
   simp only[vX]at h1 h2;subst h1;subst h2;simp
 | [],_::_,_,us,vs,h,h1,h2=>by simp[Zi]at h
 | [],[],_::_,us,vs,h,h1,h2=>by simp[Zi]at h
 |k::ks,[],ys,us,vs,h,h1,h2=>by cases k<;>simp[Zi]at h
 |k::ks,x::xs,[],us,vs,h,h1,h2=>by cases k<;>simp[Zi]at h
 |k::ks,x::xs,y::ys,us,vs,h,h1,h2=>by
  rw[Pn,Zct]at h;simp only[vX]at h1 h2;obtain⟨u,us,rfl,a1,a2⟩:=h1;obtain⟨v,vs,rfl,b1,b2⟩:=h2;obtain⟨e1,s1⟩:=ZaR h.1 a1 b1;obtain⟨e2,s2⟩:=Uh h.2 a2 b2;subst e1;subst e2;exact⟨rfl,fun w hw=>by rcases zI.1 hw with rfl|hw;exact s1;exact s2 w hw⟩
theorem Pp{p:Nat->Value->Value->Bool}{n:Nat}:∀{l:List Value},(∀u∈l,p n u u=true)->((l.zip l).all fun(x,y)=>p n x y)=true
 | [],_=>rfl
 |u::us,h=>by simp only[List.zip_cons_cons,List.all_cons,zk];exact⟨h u (by simp),Pp fun w hw=>h w (by simp[hw])⟩
theorem FC{K:Env}{ks:Bool×List CK}{a b:SV}{u v:Value}(h:Wx ks a b=true)(h1:Den K a u)(h2:Den K b v):u=v/\Instr.sameBits 10000 u u=true:=by
 obtain⟨f,ks⟩:=ks
 have hq:Jy (f,ks) a b=some true:=by
  unfold Wx at h;cases hq:Jy (f,ks) a b with
  |none=>rw[hq]at h;cases h
  |some r=>rw[hq]at h;exact zf some h
 cases f with
 |false=>
  simp only[Jy,ZW]at hq;obtain⟨e,s⟩:=Uh hq (show vX K [a] [u]from by simp only[vX];exact⟨u,[],rfl,h1,rfl⟩) (show vX K [b] [v]from by simp only[vX];exact⟨v,[],rfl,h2,rfl⟩);exact⟨by simpa using e,s u (by simp) _⟩
 |true=>
  cases a with
  |agg xs=>
   cases b with
   |agg ys=>
    simp only[Jy,ZW]at hq;simp only[Den]at h1 h2;obtain⟨us,rfl,h1,_⟩:=h1;obtain⟨vs,rfl,h2,_⟩:=h2;obtain⟨e,s⟩:=Uh hq h1 h2;subst e;refine⟨rfl,?_⟩;show(us.toArray.size==us.toArray.size&& (us.toArray.toList.zip us.toArray.toList).all fun(x,y)=>Instr.sameBits 9999 x y)=true
    simp only[beq_self_eq_true,xF];exact Pp fun w hw=>s w (by simpa using hw) _
   |_=>simp[Jy,ZW]at hq
  |_=>simp[Jy,ZW]at hq
theorem ZaS{ks:Bool×List CK}{a b:SV}(h1:Ji ks a=true)(h2:Ji ks b=true):∃r,Jy ks a b=some r:=by
 obtain⟨f,ks⟩:=ks;simp only[Ji,Jy]at h1 h2⊢;cases ha:ZW f a with
 |none=>rw[ha]at h1;cases h1
 |some xs=>
  cases hb:ZW f b with
  |none=>rw[hb]at h2;cases h2
  |some ys=>
   rw[ha]at h1;rw[hb]at h2;exact vI.1 (Po h1 h2)
def pz(K:Env):List (List SV)->List MapEntry->Prop
 | [],[]=>True
 |r::rs,e::es=>vX K r [e.key,e.val]/\pz K rs es
 |_,_=>False
theorem WC{K:Env}:∀{rs:List (List SV)} {es:List MapEntry} {i:Nat},es.length=rs.length->(∀j row,rs[j]?=some row->∃en:MapEntry,es[j]?=some en/\en.born=i+j/\vX K row [en.key,en.val])->pz K rs es
 | [],[],_,_,_=>trivial
 | [],_::_,_,h,_=>by simp at h
 |_::_,[],_,h,_=>by simp at h
 |r::rs,e::es,i,hl,h=>by
  obtain⟨en,h1,_,h3⟩:=h 0 r rfl;simp at h1;subst h1
  exact⟨h3,WC (i:=i+1) (by simpa using hl) fun j row hr=>by
   obtain⟨en,g1,g2,g3⟩:=h (j+1) row (by simpa using hr)
   exact⟨en,by simpa using g1,by omega,g3⟩⟩
def Dp(K:Env):Option (Nat×SV)->Option (Nat×Value)->Prop
 |none,f=>f=none
 |some (j,v),f=> ∃x,f=some (j,x)/\Den K v x
theorem Pq{P:Program}{T:qg}(hT:ux P T){t:TypeId}{ks:Bool×List CK}(ht:T.key t=some ks){K:Env}{w:World}{key:SV}{u:Value}(hk:Ji ks key=true)(hu:Den K key u):
 ∀{rs:List (List SV)} {es:List MapEntry} {i:Nat},Jn ks rs->pz K rs es->∃f,(Instr.findAsking t u es i).run P w= .ok f w/\(∀d,P.underlying t=some d->Instr.findNow d u es i=none\/Instr.findNow d u es i=some f)/\Dp K (X1 ks key i rs) f/\∀j x,f=some (j,x)->i<=j/\∃e,es[j-i]?=some e/\e.val=x
 | [],[],i,_,_=>⟨none,by simp[Instr.findAsking],fun d _=> .inr rfl,rfl,fun _ _ h=>by cases h⟩
 | [],_::_,_,_,h=>h.elim
 |_::_,[],_,_,h=>h.elim
 |r::rs,e::es,i,ho,h=>by
  obtain⟨k,v,rfl,fG⟩:=ho r (by simp);obtain⟨hd,hr⟩:=h;simp only[vX]at hd;obtain⟨_,_,e1,hdk,_,_,e2,pE,e3⟩:=hd;cases e1;cases e2
  obtain⟨b,hb⟩:=ZaS hk fG;obtain⟨g1,g2⟩:=(hT.key t ks ht).2.1 w K key k u e.key b hb hu hdk;have Pt:Wx ks key k=b:=by simp only[Wx,hb]
  cases b with
  |true=>
   refine⟨some (i,e.val),by simp[Instr.findAsking,g1],fun d hd=>?_,?_,fun j x h=>?_⟩;rcases g2 d hd with h|h<;>simp[Instr.findNow,h]
   simp only[X1,Pt];exact⟨_,rfl,pE⟩
   .simp only[zh,yF]at h;obtain⟨rfl,rfl⟩:=h;exact⟨zn _,e,by simp,rfl⟩
  |false=>
   obtain⟨f,f1,f2,f3,f4⟩:=Pq hT ht hk hu (i:=i+1) (rs:=rs) (es:=es) (fun r hr=>ho r (by simp[hr])) hr;refine⟨f,by simp[Instr.findAsking,g1];exact f1,fun d hd=>?_,?_,fun j x h=>?_⟩
   .rcases g2 d hd with h|h
    simp[Instr.findNow,h];simp only[Instr.findNow,h];exact f2 d hd
   simp only[X1,Pt];exact f3
   .obtain⟨h1,e',h2,h3⟩:=f4 j x h;refine⟨by omega,e',?_,h3⟩;rw[show j-i=(j-(i+1))+1 by omega];simpa using h2
theorem JY{P:Program}{T:qg}(hT:ux P T){t:TypeId}{ks:Bool×List CK}(ht:T.key t=some ks){K:Env}{w:World}{key:SV}{u:Value}(hk:Ji ks key=true)(hu:Den K key u)
 {rs:List (List SV)} {es:List MapEntry} (ho:Jn ks rs) (hm:pz K rs es):∃f,(Instr.findKey t u es).run P w= .ok f w/\Dp K (X1 ks key 0 rs) f/\∀j x,f=some (j,x)->∃e,es[j]?=some e/\e.val=x:=by
 obtain⟨f,f1,f2,f3,f4⟩:=Pq hT ht hk hu (i:=0) (w:=w) ho hm;obtain⟨d,hd⟩:=(hT.key t ks ht).2.2;refine⟨f,?_,f3,fun j x h=>by simpa using(f4 j x h).2⟩;rcases f2 d hd with h|h
 simp[Instr.findKey,Z5 hd,h,f1];simp[Instr.findKey,Z5 hd,h]
theorem VC{P:Program}{T:qg}(hT:ux P T){t:TypeId}{ks:Bool×List CK}(ht:T.key t=some ks){K:Env}{w:World}{key:SV}{u:Value}(hk:Ji ks key=true)(hu:Den K key u)
 {rs:List (List SV)} {es:List MapEntry} (ho:Jn ks rs) (hm:pz K rs es):∃f,(Instr.findKey t u es).run P w= .ok f w/\Dp K (X1 ks key 0 rs) f:=
 let⟨f,h1,h2,_⟩:=JY hT ht hk hu ho hm;⟨f,h1,h2⟩
theorem UH{ks:Bool×List CK}{key:SV}:∀{rs:List (List DC)} {i:Nat},X1 ks key i (ZA rs)=(findD ks key i rs).map fun p=>(p.1,Y0 p.2)
 | [],_=>rfl
 |r::rs,i=>by
  have ih:=UH (ks:=ks) (key:=key) (rs:=rs) (i:=i+1);unfold ZA at ih⊢
  match r with
  | []=>rfl
  | [a]=>rfl
  |a::b::c::l=>rfl
  | [k,v]=>
    simp only[zL,yX,X1,findD];cases Wx ks key (Y0 k)
    exact ih
    rfl
theorem FD{ks:Bool×List CK}{key:SV}:∀{rs:List (List DC)} {i j:Nat} {v:DC},findD ks key i rs=some (j,v)->∃k,i<=j/\rs[j-i]?=some [k,v]/\Wx ks key (Y0 k)=true
 | [],i,j,v,h=>by simp[findD]at h
 |r::rs,i,j,v,h=>by
  unfold findD at h;split at h
  .rename_i k u;split at h
   .rename_i hk;simp only[zh,yF]at h;obtain⟨rfl,rfl⟩:=h;exact⟨k,zn _,by simp,hk⟩
   .obtain⟨k',h1,h2,h3⟩:=FD h;refine⟨k',by omega,?_,h3⟩;have:j-i=(j-(i+1))+1:=by omega
    rw[this];simpa using h2
  cases h
def uw(rs:List (List DC))(r c:Nat)(d:DC):List (List DC):=rs.modify r fun row=>row.set c d
theorem Y1{rs:List (List DC)}{r c:Nat}{d:DC}(i:Nat):(uw rs r c d)[i]?=if i=r then(rs[i]?).map (fun row=>row.set c d)else rs[i]?:=by
 unfold uw;rw[ym];by_cases h:r=i
 subst h;simp;rw[z6 (fun e=>h e.symm)];simp[h]
theorem uB{rs:List (List DC)}{i j es:Nat}{rows:List (List SV)}:Yy rs i j=some (es,rows)<->∃row,rs[i]?=some row/\row[j]?=some (.uC es rows):=by
 unfold Yy;constructor
 .intro h;split at h
  .rename_i row hr;split at h
   .rename_i es' rows' hc;simp only[zh,yF]at h;obtain⟨rfl,rfl⟩:=h;exact⟨row,hr,hc⟩
   cases h
  cases h
 .rintro⟨row,hr,hc⟩;rw[hr];simp only[hc]
theorem Xx{rs:List (List DC)}{r c:Nat}{d:DC}{i j:Nat}{x:Nat×List (List SV)}(h:Yy (uw rs r c d) i j=some x):Yy rs i j=some x\/(i=r/\j=c/\d= .uC x.1 x.2):=by
 obtain⟨es,rows⟩:=x;obtain⟨row,hr,hc⟩:=uB.1 h;rw[Y1]at hr;by_cases hi:i=r
 .subst hi;rw[z8 rfl]at hr;obtain⟨dM,h0,rfl⟩:=zH.1 hr;rw[xl]at hc;by_cases hj:c=j
  .subst hj;rw[z8 rfl]at hc;split at hc
   .injection hc with hc;exact .inr ⟨rfl,rfl,hc⟩
   cases hc
  .rw[z6 hj]at hc;exact .inl (uB.2 ⟨dM,h0,hc⟩)
 .rw[z6 hi]at hr;exact .inl (uB.2 ⟨row,hr,hc⟩)
theorem Ju{rs:List (List DC)}{r c:Nat}{sv:SV}{i j:Nat}{x:Nat×List (List SV)}(h:Yy (uw rs r c (.v sv)) i j=some x):Yy rs i j=some x/\¬(i=r/\j=c):=by
 refine⟨(Xx h).elim id (fun h=>by cases h.2.2),?_⟩;rintro⟨rfl,rfl⟩;obtain⟨es,rows⟩:=x;obtain⟨row,hr,hc⟩:=uB.1 h;rw[Y1,z8 rfl]at hr;obtain⟨dM,h0,rfl⟩:=zH.1 hr;rw[xl,z8 rfl]at hc;split at hc
 cases hc
 cases hc
theorem Yp{rs:List (List DC)}{i:Nat}:(ZA rs)[i]?=(rs[i]?).map fun r=>r.map Y0:=by unfold ZA;rw[z7]
theorem Yc{rs:List (List DC)}:(ZA rs).length=rs.length:=by unfold ZA;rw[zj]
theorem UI{rs:List (List DC)}{r c:Nat}{d:DC}(i:Nat):(ZA (uw rs r c d))[i]?=if i=r then((ZA rs)[i]?).map (fun row=>row.set c (Y0 d))else(ZA rs)[i]?:=by
 rw[Yp,Y1,Yp];split
 cases rs[i]?<;>simp[xZ]
 rfl
theorem Dq{rs:List (List DC)}{r c:Nat}{d:DC}:(uw rs r c d).length=rs.length:=by unfold uw;rw[vJ]
section
variable {M:Mx}{K:Env}{w w':World}{O:u0}{nx:Nat}
def Pu(K:Env)(w:World)(own:Bool)(b:wG)(mp:Bool)(es:Nat)(fs:List (List SV)):Prop:=match mp with|true=>gu K w b fs|false=>uQ K w own b es fs
theorem Ui{own:Bool}{b:wG}{mp:Bool}{es:Nat}{rs:List (List DC)}(d:vV K w own b (.deep mp es rs)){r c:Nat}{row:List DC}{dc:DC}(hr:rs[r]?=some row)(hc:row[c]?=some dc):
 ∃e o v,K.get b=some (some e)/\w.heap[e.g]?=some o/\ZY o es r c=some v/\Den K (Y0 dc) v/\qm K w e.g o es rs:=by
 have hfr:(ZA rs)[r]?=some (row.map Y0):=by rw[Yp,hr];rfl
 have sI:(row.map Y0)[c]?=some (Y0 dc):=by rw[z7,hc];rfl
 cases mp
 .simp only[vV]at d;obtain⟨d1,d2⟩:=d;rcases d1 with⟨_,h2⟩|⟨e,arr,T,fz,h1,h2,h3,h4⟩
  rw[h2]at hfr;cases hfr;obtain⟨h5,h6⟩:=d2 e h1;obtain⟨v,h7,_,h8⟩:=(h4 r _ hfr).2 c _ sI;rw[h5,zw]at h7;exact⟨e,_,v,h1,h2,h7,h8,h6 _ h2⟩
 .simp only[vV]at d;obtain⟨⟨d1,d0⟩,d2⟩:=d;obtain⟨e,uN,h1,h2,h3,h4,h5⟩:=d1;obtain⟨_,h6⟩:=d2 e h1;obtain⟨en,g1,_,g3⟩:=h5 r _ hfr;obtain⟨v,hv,hd⟩:=Xo g3 sI;refine⟨e,_,v,h1,h3,?_,hd,h6 _ h3⟩;simp only[ZY,g1,Option.map_some]
  match c,hv with
  |0,hv=>simpa using hv
  |1,hv=>simpa using hv
  |c+2,hv=>simp at hv
theorem Dr{own:Bool}{b:wG}{mp:Bool}{es:Nat}{rs:List (List DC)}(d:vV K w own b (.deep mp es rs)){η':Env}(hp:K<+:η'){r c:Nat}{dc:DC}
 (hv:∀e o v,K.get b=some (some e)->w.heap[e.g]?=some o->ZY o es r c=some v->Den η' (Y0 dc) v):
 Pu η' w own b mp es (ZA (uw rs r c dc)):=by
 cases mp
 .simp only[vV]at d;obtain⟨d1,d2⟩:=d;rcases d1 with⟨h1,h2⟩|⟨e,arr,T,fz,h1,h2,h3,h4⟩
  .refine .inl ⟨Env.ug hp h1,?_⟩;apply zO.1;rw[Yc,Dq,<-Yc,h2];rfl
  .refine .inr ⟨e,arr,T,fz,Env.ug hp h1,h2,by rw[Yc,Dq,<-Yc];exact h3,fun i row hr=>?_⟩;rw[UI]at hr;obtain⟨h5,_⟩:=d2 e h1;split at hr
   .rename_i hi;subst hi;obtain⟨dM,h0,rfl⟩:=zH.1 hr;obtain⟨g1,g2⟩:=h4 i dM h0;refine⟨by rw[vG];exact g1,fun j sv hj=>?_⟩;rw[xl]at hj;split at hj
    .rename_i hcj;subst hcj;split at hj
     .rename_i hlt;injection hj with hj;subst hj;obtain⟨v,k1,k2,_⟩:=g2 c _ (z1 hlt);refine⟨v,k1,k2,hv e _ v h1 h2 ?_⟩;rw[h5,zw]at k1;exact k1
     cases hj
    .obtain⟨v,k1,k2,k3⟩:=g2 j sv hj;exact⟨v,k1,k2,k3.mono hp⟩
   exact⟨(h4 i row hr).1,(h4 i row hr).2.mono hp⟩
 .simp only[vV]at d;obtain⟨⟨d1,d0⟩,d2⟩:=d;obtain⟨e,uN,h1,h2,h3,h4,h5⟩:=d1;refine⟨e,uN,Env.ug hp h1,h2,h3,by rw[Yc,Dq,<-Yc];exact h4,fun i row hr=>?_⟩;rw[UI]at hr;split at hr
  .rename_i hi;subst hi;obtain⟨dM,h0,rfl⟩:=zH.1 hr;obtain⟨en,g1,g2,g3⟩:=h5 i dM h0;refine⟨en,g1,g2,?_⟩;have mO:=fun v (hc:ZY (.map uN uN.size) es i c=some v)=>hv e _ v h1 h3 hc;simp only[ZY,g1,Option.map_some,zh]at mO;have g3:=g3.mono hp
   match dM,c,mO,g3 with
   | [],c,_,g3=>simpa using g3
   | [a],0,mO,g3=>simp[vX]at g3
   |a::b::l,0,mO,g3=>
    simp only[List.set_cons_zero,vX]at g3⊢;obtain⟨u,us,q1,q2,q3⟩:=g3;injection q1 with q1 sJ;subst q1 sJ;exact⟨_,_,rfl,mO _ rfl,q3⟩
   | [a],c+1,mO,g3=>simp[vX]at g3
   |a::b::l,1,mO,g3=>
    simp only[List.set_cons_succ,List.set_cons_zero,vX]at g3⊢;obtain⟨u,us,q1,q2,u',us',q3,q4,q5⟩:=g3;injection q1 with q1 sJ;subst q1 sJ;injection q3 with q3 Ds;subst q3 Ds;exact⟨_,_,rfl,q2,_,_,rfl,mO _ rfl,q5⟩
   |a::b::l,c+2,mO,g3=>
    have:(a::b::l).set (c+2) (Y0 dc)=a::b::l:=by
     simp only[vX]at g3;obtain⟨u,us,q1,q2,u',us',q3,q4,q5⟩:=g3;injection q1 with q1 sJ;subst q1 sJ;injection q3 with q3 Ds;subst q3 Ds;cases l with
     |nil=>rfl
     |cons x l=>simp[vX]at q5
    rw[this];exact g3
  .obtain⟨en,g1,g2,g3⟩:=h5 i row hr;exact⟨en,g1,g2,g3.mono hp⟩
theorem vV.qD{own:Bool}{b:wG}{mp:Bool}{es:Nat}{rs:List (List DC)}(d:vV K w own b (.deep mp es rs)):(∃x,K.get b=some x)/\uS K w b es rs/\(mp=true->es=2):=by
 cases mp
 .simp only[vV]at d;exact⟨let⟨x,h,_⟩:=d.1.o7;⟨x,h⟩,d.2,fun h=>by cases h⟩
 .simp only[vV]at d;exact⟨let⟨x,h,_⟩:=d.1.1.o7;⟨x,h⟩,d.2,fun _=>d.1.2⟩
theorem vV.j9{own:Bool}{b:wG}{mp:Bool}{es:Nat}{rs:List (List DC)}(h:Pu K w own b mp es (ZA rs))(h0:mp=true->es=2)(h2:uS K w b es rs):vV K w own b (.deep mp es rs):=by
 cases mp
 simp only[vV];exact⟨h,h2⟩;simp only[vV];exact⟨⟨h,h0 rfl⟩,h2⟩
theorem vU.take(H:vU M K w O nx){i:Nat}{mp:Bool}{es:Nat}{rs:List (List DC)}(hi:u6 i O=some (.deep mp es rs)){r c es':Nat}{row:List DC}{rows:List (List SV)}(hr:rs[r]?=some row)(hc:row[c]?=some (.uC es' rows)):
 ∃x,vU M (K++ [x]) w ((nx, .rows es' rows)::uO i (.deep mp es (uw rs r c (.v (.sl (.loc nx) 0 es' rows.length none)))) O) (nx+1):=by
 obtain⟨uc,hF⟩:=H.own.1 i _ hi;obtain⟨e,o,v,he,ho,hv,_,hK⟩:=Ui uc hr hc;have ki:Yy rs r c=some (es',rows):=uB.2 ⟨row,hr,hc⟩;obtain⟨v',FE,hks,Dt⟩:=hK.sat r c es' rows ki;rw[hv]at FE;injection FE with FE;subst FE
 have sK:∀k,v.ownBlock=some k->u5 K w (.loc i) (.deep mp es rs) k:=fun k hk=>⟨e,he, .inr (by simp only[uC];exact⟨o,r,c,_,v,ho,ki,hv,hk⟩)⟩;obtain⟨_,hD,h0⟩:=uc.qD;have hsome:(u6 i O).isSome:=by rw[hi];rfl
 obtain⟨x,hx,mm,hnew,fR⟩:∃x:Option qJ,(∀e',x=some e'->v.ownBlock=some e'.g)/\(∀e',x=some e'->e'.g<w.heap.size)/\vV (K++ [x]) w true (.loc nx) (.rows es' rows)/\Den (K++ [x]) (.sl (.loc nx) 0 es' rows.length none) v:=by
  rcases hks with⟨rfl,rfl⟩|⟨g,cap,arr,T,fz,rfl,k2,k3,k4,k5,k6⟩
  .refine⟨none,(fun e' h=>by cases h),(fun e' h=>by cases h),?_,?_⟩;simp only[vV];exact .inl ⟨ZS H.len _,trivial⟩;simp only[Den];exact .inl ⟨ZS H.len _,trivial,rfl⟩
  .refine⟨some ⟨g,0,cap⟩,fun e' h=>by injection h with h;subst h;rfl,fun e' h=>by injection h with h;subst h;exact(zC.1 k2).1,?_,?_⟩
   .simp only[vV];exact .inr ⟨_,arr,T,fz,ZS H.len _,k2,fun _=>⟨k3,k4,k5,rfl⟩,fun j row hj=>⟨(k6 j row hj).1,(k6 j row hj).2.mono (zD _ _)⟩⟩
   .simp only[Den];exact .inr ⟨_,0,ZS H.len _,by simp,by simpa using k5,by simp,fun _=>by simp⟩
 have hp:K<+:K++ [x]:=zD _ _;have Ka:(K++ [x]).get (.loc i)=some (some e):=Env.ug hp he
 have hsi:vV (K++ [x]) w true (.loc i) (.deep mp es (uw rs r c (.v (.sl (.loc nx) 0 es' rows.length none)))):=by
  refine vV.j9 (Dr uc hp fun e' o' v' h1 h2 h3=>?_) h0 fun e' h1=>?_
  .rw[he]at h1;injection h1 with h1;injection h1 with h1;subst h1
   rw[ho]at h2;injection h2 with h2;subst h2
   rw[hv]at h3;injection h3 with h3;subst h3
   exact fR
  .rw[Ka]at h1;injection h1 with h1;injection h1 with h1;subst h1
   refine⟨(hD e he).1,fun o' h2=>?_⟩;rw[ho]at h2;injection h2 with h2;subst h2
   have hK:=hK.mono hp;exact⟨fun a b fF fS hk=>hK.sat a b fF fS (Ju hk).1,fun a b a' b' y y' u u' k h1 h2=>hK.ne a b a' b' y y' u u' k (Ju h1).1 (Ju h2).1⟩
 have back:∀j g,u6 j O=some g->∀k,u5 (K++ [x]) w (.loc j) g k->u5 K w (.loc j) g k:=fun j g hj k f=>H.stands hp hj (fun _ _=>rfl) f
 have gw:∀k,u5 (K++ [x]) w (.loc i) (.deep mp es (uw rs r c (.v (.sl (.loc nx) 0 es' rows.length none)))) k->u5 K w (.loc i) (.deep mp es rs) k/\v.ownBlock≠some k:=by
  intro k f;rcases f.of Ka with rfl|f
  exact⟨u5.own he,Dt⟩
  .simp only[uC]at f;obtain⟨o',a,b,y,u,f1,f2,f3,f4⟩:=f;rw[ho]at f1;injection f1 with f1;subst f1
   obtain⟨f5,f6⟩:=Ju f2;refine⟨⟨e,he, .inr (by simp only[uC];exact⟨o,a,b,y,u,ho,f5,f3,f4⟩)⟩,fun hk=>f6 ?_⟩;exact hK.ne a b r c y _ u v k f5 ki f3 hv f4 hk
 have sL:∀k,u5 (K++ [x]) w (.loc nx) (.rows es' rows) k->v.ownBlock=some k:=by
  intro k f;obtain⟨e',f1,f2⟩:=f;rw[ZS H.len]at f1;injection f1 with f1;subst f1
  rcases f2 with rfl|f2
  exact hx _ rfl;exact f2.elim
 refine⟨x,{pre:=H.pre.trans hp,len:=by simp[H.len],wH:=H.wH,fr:=H.fr,own:=⟨?_,?_⟩}⟩
 .intro j g hj;rw[Z6]at hj;split at hj
  .rename_i hq;subst hq;injection hj with hj;subst hj
   exact⟨hnew,fun k f=>hF k (sK k (sL k f))⟩
  .rw[Y5 i _ O j hsome]at hj;split at hj
   .rename_i hq;subst hq;injection hj with hj;subst hj
    exact⟨hsi,fun k f=>hF k (gw k f).1⟩
   exact⟨(H.own.1 j g hj).1.mono hp,fun k f=>(H.own.1 j g hj).2 k (back j g hj k f)⟩
 .intro j k g g' m hj hk hne f f';rw[Z6]at hj hk;rw[Y5 i _ O _ hsome]at hj hk;split at hj
  .rename_i hq;subst hq;injection hj with hj;subst hj
   rw[z6 (yO hne)]at hk;have f:=sL m f;split at hk
   .rename_i hq;subst hq;injection hk with hk;subst hk
    exact(gw m f').2 f
   .rename_i hki;exact H.own.2 i k _ g' m hi hk (yO hki) (sK m f) (back k g' hk m f')
  .split at hk
   .rename_i hq;subst hq;injection hk with hk;subst hk
    have f':=sL m f';split at hj
    .rename_i hq;subst hq;injection hj with hj;subst hj
     exact(gw m f).2 f'
    .rename_i hji;exact H.own.2 i j _ g m hi hj (yO hji) (sK m f') (back j g hj m f)
   .split at hj
    .rename_i hq;subst hq;injection hj with hj;subst hj
     rw[z6 (yO hne)]at hk;exact H.own.2 j k _ g' m hi hk hne (gw m f).1 (back k g' hk m f')
    .split at hk
     .rename_i hq;subst hq;injection hk with hk;subst hk
      exact H.own.2 j k g _ m hj hi hne (back j g hj m f) (gw m f').1
     exact H.own.2 j k g g' m hj hk hne (back j g hj m f) (back k g' hk m f')
theorem vU.jL(H:vU M K w O nx){i:Nat}{mp:Bool}{es:Nat}{rs:List (List DC)}(hi:u6 i O=some (.deep mp es rs)){r c k es' n:Nat}{row:List DC}{rows:List (List SV)}(hr:rs[r]?=some row)(hc:row[c]?=some (.v (.sl (.loc k) 0 es' n none)))
 (hk:u6 k O=some (.rows es' rows)) (hn:n<=rows.length) (hki:k≠i):vU M K w (wh k (uO i (.deep mp es (uw rs r c (.uC es' (rows.take n)))) O)) nx:=by
 obtain⟨uc,hF⟩:=H.own.1 i _ hi;obtain⟨hsk,FF⟩:=H.own.1 k _ hk;obtain⟨e,o,v,he,ho,hv,pE,hK⟩:=Ui uc hr hc;obtain⟨_,hD,h0⟩:=uc.qD;have hsome:(u6 i O).isSome:=by rw[hi];rfl
 have hks:wD K w v es' (rows.take n)/\∀g,v.ownBlock=some g->u5 K w (.loc k) (.rows es' rows) g:=by
  simp only[Y0,Den]at pE;simp only[vV]at hsk;rcases pE with⟨h1,rfl,rfl⟩|⟨en,q,h1,rfl,h3,h4,h5⟩
  exact⟨.inl ⟨rfl,by simp⟩,fun g h=>by cases h⟩
  .rcases hsk with⟨h6,_⟩|⟨eP,arr,T,fz,h6,h7,h8,h9⟩
   rw[h1]at h6;cases h6;rw[h1]at h6;injection h6 with h6;injection h6 with h6;subst h6
   obtain⟨g1,g2,g3,g4⟩:=h8 trivial;have hq:=h5 (.inr trivial);rw[g4]at hq h9;simp only[yQ,Nat.add_zero]at hq;subst hq;have hl:(rows.take n).length=n:=by rw[zA];omega
   refine⟨.inr ⟨en.g,en.cap,arr,T,fz,by rw[hl];simp,h7,g1,g2,by rw[hl];omega,fun j q hj=>?_⟩,fun g h=>?_⟩
   .rw[y4]at hj;split at hj
    exact h9 j q hj;cases hj
   .simp only[Value.ownBlock,zh]at h;subst h;exact u5.own h1
 obtain⟨hks,FG⟩:=hks
 have Du:Yy rs r c=none:=by
  cases hq:Yy rs r c with
  |none=>rfl
  |some x=>
   obtain⟨a,b⟩:=x;obtain⟨row',q1,q2⟩:=uB.1 hq;rw[hr]at q1;injection q1 with q1;subst q1
   rw[hc]at q2;cases q2
 have sM:∀a b y u g,Yy rs a b=some y->ZY o es a b=some u->u.ownBlock=some g->u5 K w (.loc i) (.deep mp es rs) g:=fun a b y u g h1 h2 h3=>⟨e,he, .inr (by simp only[uC];exact⟨o,a,b,y,u,ho,h1,h2,h3⟩)⟩;have Dt:v.ownBlock≠some e.g:=fun h=>H.own.2 k i _ _ e.g hk hi hki (FG _ h) (u5.own he)
 have hsi:vV K w true (.loc i) (.deep mp es (uw rs r c (.uC es' (rows.take n)))):=by
  refine vV.j9 (Dr (dc:= .uC es' (rows.take n)) uc zx fun _ _ _ _ _ _=>trivial) h0 fun e' h1=>?_;rw[he]at h1;injection h1 with h1;injection h1 with h1;subst h1
  refine⟨(hD e he).1,fun o' h2=>?_⟩;rw[ho]at h2;injection h2 with h2;subst h2
  refine⟨fun a b fF fS dr=>?_,fun a b a' b' y y' u u' g h1 h2 h3 h4 h5 h6=>?_⟩
  .rcases Xx dr with h|⟨rfl,rfl,h⟩
   exact hK.sat a b _ _ h
   .injection h with q1 q2;subst q1 q2;exact⟨v,hv,hks,Dt⟩
  .rcases Xx h1 with q|⟨rfl,rfl,q⟩
   .rcases Xx h2 with q'|⟨rfl,rfl,q'⟩
    exact hK.ne a b a' b' y y' u u' g q q' h3 h4 h5 h6
    .rw[hv]at h4;injection h4 with h4;subst h4
     exact(H.own.2 k i _ _ g hk hi hki (FG _ h6) (sM a b y u g q h3 h5)).elim
   .rcases Xx h2 with q'|⟨rfl,rfl,q'⟩
    .rw[hv]at h3;injection h3 with h3;subst h3
     exact(H.own.2 k i _ _ g hk hi hki (FG _ h5) (sM a' b' y' u' g q' h4 h6)).elim
    exact⟨rfl,rfl⟩
 have gw:∀m,u5 K w (.loc i) (.deep mp es (uw rs r c (.uC es' (rows.take n)))) m->u5 K w (.loc i) (.deep mp es rs) m\/u5 K w (.loc k) (.rows es' rows) m:=by
  intro m f;rcases f.of he with rfl|f
  exact .inl (u5.own he)
  .simp only[uC]at f;obtain⟨o',a,b,y,u,f1,f2,f3,f4⟩:=f;rw[ho]at f1;injection f1 with f1;subst f1
   rcases Xx f2 with q|⟨rfl,rfl,q⟩
   exact .inl (sM a b y u m q f3 f4)
   .rw[hv]at f3;injection f3 with f3;subst f3
    exact .inr (FG m f4)
 have aux:∀(j:Nat) (g:Hp),u6 j (wh k (uO i (.deep mp es (uw rs r c (.uC es' (rows.take n)))) O))=some g->j≠k/\u6 j (uO i (.deep mp es (uw rs r c (.uC es' (rows.take n)))) O)=some g:=fun j g h=>by
  by_cases hj:j=k
  subst hj;rw[Ym]at h;cases h;exact⟨hj,by rwa [Jq k _ j hj]at h⟩
 refine{pre:=H.pre,len:=H.len,wH:=H.wH,fr:=H.fr,own:=⟨?_,?_⟩}
 .intro j g hj
  replace hj:=(aux j g hj).2
  rw[Y5 i _ O j hsome]at hj;split at hj
  .rename_i hq;subst hq;injection hj with hj;subst hj
   exact⟨hsi,fun m f=>(gw m f).elim (hF m) (FF m)⟩
  exact H.own.1 j g hj
 .intro j j' g g' m hj hj' hne f f';have hjk:=(aux j g hj).1;have Dv:=(aux j' g' hj').1
  replace hj:=(aux j g hj).2
  replace hj':=(aux j' g' hj').2
  rw[Y5 i _ O _ hsome]at hj hj';split at hj
  .rename_i hq;subst hq;injection hj with hj;subst hj
   rw[z6 (yO hne)]at hj';rcases gw m f with f|f
   exact H.own.2 j j' _ g' m hi hj' hne f f';exact H.own.2 k j' _ g' m hk hj' (yO Dv) f f'
  .split at hj'
   .rename_i hq;subst hq;injection hj' with hj';subst hj'
    rcases gw m f' with f'|f'
    exact H.own.2 j j' g _ m hj hi hne f f';exact H.own.2 j k g _ m hj hk hjk f f'
   exact H.own.2 j j' g g' m hj hj' hne f f'
theorem vU.sN(H:vU M K w O nx){i:Nat}{mp:Bool}{es:Nat}{rs:List (List DC)}(hi:u6 i O=some (.deep mp es rs)){r c es':Nat}{row:List DC}(hr:rs[r]?=some row)(hc:row[c]?=some (.v (.val (.slice none 0 0)))):
 vU M K w (uO i (.deep mp es (uw rs r c (.uC es' []))) O) nx:=by
 obtain⟨uc,hF⟩:=H.own.1 i _ hi;obtain⟨e,o,v,he,ho,hv,pE,hK⟩:=Ui uc hr hc;obtain⟨_,hD,h0⟩:=uc.qD;have kY:v= .slice none 0 0:=pE.1;subst kY
 have back:∀{a b y u g},Yy (uw rs r c (.uC es' [])) a b=some y->ZY o es a b=some u->u.ownBlock=some g->Yy rs a b=some y:=by
  intro a b y u g h1 h2 h3;rcases Xx h1 with q|⟨rfl,rfl,q⟩
  exact q;rw[hv]at h2;injection h2 with h2;subst h2;cases h3
 refine H.bT hi he (fun _ _=>rfl) rfl rfl rfl rfl ?_ (zn _) fun m f=>?_
 .refine vV.j9 (Dr (dc:= .uC es' []) uc zx fun _ _ _ _ _ _=>trivial) h0 fun e' h1=>?_;rw[he]at h1;injection h1 with h1;injection h1 with h1;subst h1
  refine⟨(hD e he).1,fun o' h2=>?_⟩;rw[ho]at h2;injection h2 with h2;subst h2
  refine⟨fun a b fF fS dr=>?_,fun a b a' b' y y' u u' g h1 h2 h3 h4 h5 h6=>hK.ne a b a' b' y y' u u' g (back h1 h3 h5) (back h2 h4 h6) h3 h4 h5 h6⟩;rcases Xx dr with h|⟨rfl,rfl,h⟩
  exact hK.sat a b _ _ h
  .injection h with q1 q2;subst q1 q2;exact⟨_,hv, .inl ⟨rfl,rfl⟩,by simp[Value.ownBlock]⟩
 .rcases f.of he with rfl|f
  exact u5.own he
  .simp only[uC]at f;obtain⟨o',a,b,y,u,f1,f2,f3,f4⟩:=f;rw[ho]at f1;injection f1 with f1;subst f1
   exact⟨e,he, .inr (by simp only[uC];exact⟨o,a,b,y,u,ho,back f2 f3 f4,f3,f4⟩)⟩
theorem Dw{T:qg}{et:TypeId}{i:Nat}{h:DC->Hp}{sv:SV}{v':SV}{O':u0}{vZ:Nat}(hr:(Wy T et O i h sv).ok O nx v' O' vZ){mp:Bool}{es:Nat}{oL:List (List DC)}{r c:Nat}{row:List DC}
 (hh:∀d,h d= .deep mp es (uw oL r c d)) (hv:h (.v sv)= .deep mp es oL) (hrow:oL[r]?=some row) (hcell:row[c]?=some (.v sv)) (hi:(u6 i O).isSome)
 (H:vU M K w (uO i (h (.v sv)) O) nx):vU M K w O' nx/\v'= .uI []/\vZ=nx:=by
 have jH:(uz.jK i (h (.v sv)) (.uI [])).ok O nx v' O' vZ->vU M K w O' nx/\v'= .uI []/\vZ=nx:=by
  rintro⟨rfl,rfl,rfl⟩;exact⟨H,rfl,rfl⟩
 have hlk:u6 i (uO i (h (.v sv)) O)=some (.deep mp es oL):=by rw[Y5 i _ O i hi,z8 rfl,hv]
 have Kb:∀(a b:Hp) (O:u0),uO i a (uO i b O)=uO i a O:=by
  intro a b O
  induction O with
  |nil=>rfl
  |cons p O ih=>
   obtain⟨d,u⟩:=p;unfold uO;cases hb:Nat.beq i d
   simp only[uO,hb,ih];simp only[uO,hb]
 unfold Wy at hr;split at hr
 .rename_i k r' es' n lim;split at hr
  .split at hr
   .rename_i fF rows hk;split at hr
    case h_2=>exact hr.elim
    rename_i h1;have h1:=Zq h1;subst h1;split at hr
    case h_2=>exact hr.elim
    rename_i h2;have hki:=Jb h2;obtain⟨hn,rfl,rfl,rfl⟩:=hr;have hk':u6 k (uO i (h (.v (.sl (.loc k) 0 es' n none))) O)=some (.rows es' rows):=by rw[Y5 i _ O k hi,z6 hki];exact hk
    have:=H.jL hlk hrow hcell hk' hn hki;rw[Kb,<-hh]at this;exact⟨this,rfl,rfl⟩
   exact jH hr
  exact jH hr
 .split at hr
  .rename_i e hs;obtain⟨rfl,rfl,rfl⟩:=hr;have:=H.sN (es':=T.size e) hlk hrow hcell;rw[Kb,<-hh]at this;exact⟨this,rfl,rfl⟩
  exact jH hr
 exact jH hr
end
end Go.Sx
