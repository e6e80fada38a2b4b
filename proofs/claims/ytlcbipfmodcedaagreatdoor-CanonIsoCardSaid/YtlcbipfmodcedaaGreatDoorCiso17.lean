/- Part 17: Build, Build2, GrowA, GrowB. Conditions: as each part says. -/
import Derived.Test.YtlcbipfmodcedaaGreatDoorProg
import Derived.WalkKit
import Derived.Lib.FrozenHead
import Derived.Lib.Builder
import Derived.Lib.UnsafeStr
import Derived.Shelf.RegionOpenPlain
import Derived.Lib.MakeNoZero
import Derived.Laws.IdiomCopy
import Derived.Test.YtlcbipfmodcedaaGreatDoorCiso8
set_option linter.unusedVariables false
set_option linter.unusedSimpArgs false
set_option maxRecDepth 100000
namespace Go.Proofs.YtlcbipfmodcedaaGreatDoor
open Go.Sx Go.RowKit
open _root_.Go.Proofs.Tryz
abbrev TB:TypeId:=186
abbrev TU:TypeId:=5
theorem Ziu(b:Nat)(w:World)(h0:w.cell? ⟨b,0,none⟩=some (.pointer (some ⟨b,0,none⟩))):
 Calls prog 176 #[.pointer (some ⟨b,0,none⟩)] w fun e w'=>e= .returned (.tuple #[])/\w'=w:=by
 obtain⟨j,hj,_⟩:=zH.1 (show(prog.info? TB).map (·.size)=some 2 by kernel_rfl)
 go_enter func176,ntmps176
 go_wp2
 rw[Lib.run_neq_ptr_same w _ underlying184 hj]
 go_wp2
 go_end0
 exact⟨rfl,rfl⟩
theorem Zgd(b:Nat)(w:World)(h0:w.cell? ⟨b,0,none⟩=some (.pointer none))(hsh:w.shape? b=some (TB,2))(hfz:w.frozen? ⟨b,0,none⟩=false):
 Calls prog 176 #[.pointer (some ⟨b,0,none⟩)] w fun e w'=>e= .returned (.tuple #[])/\w'=w.setCell ⟨b,0,none⟩ (.pointer (some ⟨b,0,none⟩)):=by
 obtain⟨j,hj,hjs⟩:=zH.1 (show(prog.info? TB).map (·.size)=some 2 by kernel_rfl)
 go_enter func176,ntmps176
 go_wp2
 rw[Lib.run_to_unsafe w ⟨b,0,none⟩ underlying184 underlying277 hj (by rw[hjs];decide) hsh (Nat.zero_lt_succ 1)];simp only[Result.andThen];rw[Oper.upon_value]
 go_wp2
 rw[run_callFunc_extern func223 (by kernel_rfl) (by kernel_rfl) (by kernel_rfl) (e:=Extern.AbiNoEscape.same) (by kernel_rfl)];rw[Lib.run_noEscape];simp only[Result.andThen];rw[Oper.upon_value]
 go_wp2
 rw[Lib.run_from_unsafe w ⟨b,0,none⟩ underlying277 underlying184 hj hsh (by kernel_rfl)];simp only[Result.andThen];rw[Oper.upon_value]
 go_wp2
 go_end0
 exact⟨rfl,rfl⟩
structure wS(b:Nat)(w w':World):Prop where
 os:w'.os=w.os
 tape:w'.tape=w.tape
 output:w'.output=w.output
 drawn:w.drawn<=w'.drawn
 size:w.heap.size<=w'.heap.size
 block:∀k,k<w.heap.size->k≠b->¬uC w b (.kH TB TU []) k->w'.heap[k]?=w.heap[k]?
 kids:∀k,uC w' b (.kH TB TU []) k->uC w b (.kH TB TU []) k\/w.heap.size<=k
theorem LW(b:Nat)(bs:List Value)(w:World)(h:Lib.IsBuilderF TB TU 0 b bs w):
 Calls prog 176 #[.pointer (some ⟨b,0,none⟩)] w fun e w'=>e= .returned (.tuple #[])/\Lib.BuilderAtF TB TU 0 b (.pointer (some ⟨b,0,none⟩)) bs w'/\(w'=w\/w'=w.setCell ⟨b,0,none⟩ (.pointer (some ⟨b,0,none⟩))):=by
 rcases h with h|h
 .refine(Zgd b w h.cell0 h.shape h.frozen0).mono ?_;rintro e w' ⟨rfl,rfl⟩;exact⟨rfl,h.used _, .inr rfl⟩
 .refine(Ziu b w h.cell0).mono ?_;rintro e w' ⟨rfl,rfl⟩;exact⟨rfl,h, .inl rfl⟩
section
variable {P:Program}
theorem Zbv(w:World)(t u ty e:TypeId)(i:TypeInfo)(ht:P.underlying t=some (.slice e))(hu:P.underlying u=some .string)(hi:P.info? e=some i)(hz:i.zero=some (.int .u8 0))(hsize:i.size=1)(hby:i.bytes=1)
 (v:Value) (n:Nat) (xs:List Value) (hown:w.ownsRowF 0 e 1 v n xs) (s:ByteArray) (h63:n+s.size<=140737488355328):
 ∃v' w',(Builtin.append_ #[t,u] ty #[v, .string s]).run P w= .ok v' w'/\w'.ownsRowF 0 e 1 v' (n+s.size) (xs++Lib.strCells s)/\w.grownBy w' v.ownBlock/\w.drawn<=w'.drawn/\∀k,v'.ownBlock=some k->v.ownBlock=some k\/w.heap.size<=k:=by
 have hm:n+s.size<=maxLen:=by unfold maxLen;omega
 obtain⟨v',w',hr,h1,h2,_⟩:=Lib.run_append_own_stringF (P:=P) w 0 t u ty e i ht hu hi hz hsize hby v n xs hown s hm h63 (x8 _);refine⟨v',w',hr,h1,h2,?_⟩;rcases hown.2 with⟨rfl,rfl⟩|⟨g,cap,cur,fz,rfl,LX,hg,hfz,hnc,tY,hcs,Gj⟩
 .by_cases hs:s.size=0
  .have hf:=Lib.run_firstCells_string (P:=P) w 1 s;rw[hs]at hf
   have:(Builtin.append_ #[t,u] ty #[.slice none 0 0, .string s]).run P w= .ok (.slice none 0 0) w:=by
    simp[Builtin.append_,run_underlying ht,run_underlying hu,sizeOf,typeInfo,hi,hsize,Builtin.lenOf,hs,hf]
   rw[this]at hr;injection hr with hv hr;rw[<-hr,<-hv];exact⟨zn _,fun k hk=> .inl hk⟩
  .rw[run_append_nil_string (P:=P) w t u ty e i (.int .u8 0) ht hu hi hz s (by omega) (by omega) (by rw[hby];omega)]at hr;injection hr with hv hr;rw[<-hr,<-hv];refine⟨xH _,fun k hk=> .inr ?_⟩;simp only[Value.ownBlock,zh]at hk;omega
 .by_cases hroom:n+s.size<=cap
  .rw[Lib.run_append_room_stringF (P:=P) w t u ty e i ht hu hi hsize g n cap cur fz hg (by simpa using hfz) s hroom (by omega)]at hr;injection hr with hv hr;rw[<-hr,<-hv];exact⟨zn _,fun k hk=> .inl hk⟩
  .have hxl:xs.length=n:=by simpa using hown.1
   have holds:∀j u,xs[j]?=some u->w.cell? ((⟨g,0,none⟩:Addr).add j)=some u:=hown.cells (g:=g) rfl;rw[Lib.run_append_grow_string (P:=P) w t u ty e i (.int .u8 0) ht hu hi hz ⟨g,0,none⟩ n cap xs (by rw[hsize];simpa using hxl) holds s (by omega) (by omega) (by rw[hby];exact growslice_fits (by omega) (by omega))]at hr;injection hr with hv hr;rw[<-hr,<-hv];refine⟨xH _,fun k hk=> .inr ?_⟩;simp only[Value.ownBlock,zh]at hk;omega
theorem Z1i{ops:Array Oper}{rest:List Oper}{o:Oper}{a:Act}{w:World}{Q:Exit->Act->World->Prop}(hgd:o.guard=none)(sl x:Operand)(t u:TypeId)
 (ho:o.op= .call {callee:= .builtin .append,args:= #[sl,x],argTypes:= #[t,u]})
 (e:TypeId) (i:TypeInfo) (ht:P.underlying t=some (.slice e)) (hu:P.underlying u=some .string) (hi:P.info? e=some i) (hz:i.zero=some (.int .u8 0)) (hsize:i.size=1) (hby:i.bytes=1)
 (v:Value) (n:Nat) (xs:List Value) (hs:a.eval sl=v) (hown:w.ownsRowF 0 e 1 v n xs) (s:ByteArray) (hx:a.eval x= .string s) (h63:n+s.size<=140737488355328)
 (h:∀v' w',w'.ownsRowF 0 e 1 v' (n+s.size) (xs++Lib.strCells s)->w.grownBy w' v.ownBlock->w.drawn<=w'.drawn->(∀k,v'.ownBlock=some k->v.ownBlock=some k\/w.heap.size<=k)->wpList P ops Q rest (a.put o.dst v') w'):wpList P ops Q (o::rest) a w:=by
 refine wpList_plain hgd fun K hK=>?_;obtain⟨v',w',hr,h2,h3,h4,h5⟩:=Zbv (P:=P) w t u o.type e i ht hu hi hz hsize hby v n xs hown s h63;unfold Oper.wp execOp;simp only[ho,resolve,invoke,builtin,Sem.run_bind,Sem.run_pure,Result.andThen_ok,List.map_toArray,zL,yX,hs,hx,hr];exact hK _ _ (h v' w' h2 h3 h4 h5)
end
set_option maxHeartbeats 1000000 in
theorem Zkf(b:Nat)(bs:List Value)(s:ByteArray)(w:World)(h:Lib.IsBuilderF TB TU 0 b bs w)(hlen:bs.length+s.size<=140737488355328):
 Calls prog 127 #[.pointer (some ⟨b,0,none⟩), .string s] w fun e w'=>e= .returned (.tuple #[.int .i64 s.size, .nilIface])/\Lib.BuilderAtF TB TU 0 b (.pointer (some ⟨b,0,none⟩)) (bs++Lib.strCells s) w'/\wS b w w':=by
 obtain⟨i0,hi,hz0,Bp,Bq⟩:=info_parts (show(prog.info? TU).map (fun i=>(i.zero,i.size,i.bytes))=some (some (.int .u8 0),1,1)by kernel_rfl)
 go_enter func127,ntmps127
 go_wp2_with (go_at_call 176;refine(LW b bs _ h).mono ?_)
 rintro e w1 ⟨rfl,h1,hw1⟩;obtain⟨hB,v,hbk,hown,hne⟩:=h1;have c0:w1.cell? ⟨b,0,none⟩=some (.pointer (some ⟨b,0,none⟩)):=by rw[Lib.cell_of_heap hbk];rfl
 have c1:w1.cell? ⟨b,1,none⟩=some v:=by rw[Lib.cell_of_heap hbk];rfl
 go_wp2_with (at_builtin;refine Z1i rfl _ _ 52 9 rfl TU i0 underlying52 underlying9 hi hz0 Bp Bq _ _ _ rfl hown s rfl ?c3 ?_)
 case c3=>exact hlen
 intro v' w2 hown' hgrow fB hnew;have hlt:b<w1.heap.size:=(zC.1 hbk).1
 have eF:w2.heap[b]?=some (.cells #[.pointer (some ⟨b,0,none⟩),v] TB (0,0)):=by
  rw[hgrow.block b hlt (fun e=>hne e.symm)];exact hbk
 have d0:w2.cell? ⟨b,0,none⟩=some (.pointer (some ⟨b,0,none⟩)):=by rw[Lib.cell_of_heap eF];rfl
 have d1:w2.cell? ⟨b,1,none⟩=some v:=by rw[Lib.cell_of_heap eF];rfl
 have f1:w2.frozen? ⟨b,1,none⟩=false:=Lib.frozen_of_heap eF 1
 obtain⟨ao,n',cap,rfl⟩:∃ao n' cap,v'= .slice ao n' cap:=by
  rcases hown'.2 with⟨hv,_⟩|⟨g,cap,cur,fz,hv,_⟩
  exact⟨_,_,_,hv⟩;exact⟨_,_,_,hv⟩
 have other:∀k,k≠b->w1.heap[k]?=w.heap[k]?:=by
  intro k hk;rcases hw1 with rfl|rfl
  rfl
  exact Below.heap_setCell _ _ _ _ (fun e=>hk (by simp[e]))
 have z5K:w1.heap.size=w.heap.size:=by rcases hw1 with rfl|rfl<;>simp[World.setCell]
 have ki:∀k,v.ownBlock=some k->uC w b (.kH TB TU []) k:=by
  intro k hk;simp only[uC];rcases hw1 with rfl|rfl
  exact⟨_,_,_,v,hbk,rfl,hk⟩
  .simp only[World.setCell,y7,z8,zH]at hbk;obtain⟨o,ho,tZ⟩:=hbk;cases o with
   |cells arr T fz=>
    simp only[Obj.cells.injEq]at tZ;obtain⟨h1,h2,h3⟩:=tZ;refine⟨arr,T,fz,v,ho,?_,hk⟩;have:=zf (fun a=>a[1]?) h1;simpa using this
   |_=>cases tZ
 go_wp2
 go_ret2
 refine⟨rfl,?_,?_⟩;exact Lib.BuilderAtF.put (T:=TB) (e:=TU) hB eF (bs':=bs++Lib.strCells s) (by simpa[Lib.strCells_length]using hown') (by decide)
 .have lC:w1.os=w.os/\w1.tape=w.tape/\w1.output=w.output/\w1.drawn=w.drawn:=by rcases hw1 with rfl|rfl<;>exact⟨rfl,rfl,rfl,rfl⟩
  refine⟨hgrow.os.trans lC.1,hgrow.tape.trans lC.2.1,hgrow.output.trans lC.2.2.1,by have h1:=lC.2.2.2;show w.drawn<=w2.drawn;omega,?_,fun k hk hkb hkk=>?_,fun k hk=>?_⟩
  .have:=hgrow.size;simp only[World.setCell,xS];omega
  .have e1:(w2.setCell ⟨b,1,none⟩ (.slice ao n' cap)).heap[k]?=w2.heap[k]?:=Below.heap_setCell _ _ _ _ (fun e=>hkb (by simp[e]));rw[e1,hgrow.block k (by omega) (fun e=>hkk (ki k e.symm)),other k hkb]
  .have hA:=Lib.BuilderAtF.put (T:=TB) (e:=TU) hB eF (bs':=bs++Lib.strCells s) (v':= .slice ao n' cap) (by simpa[Lib.strCells_length]using hown') (by decide)
   have e2:(w2.setCell ⟨b,1,none⟩ (.slice ao n' cap)).heap[b]?=some (.cells #[.pointer (some ⟨b,0,none⟩), .slice ao n' cap] TB (0,0)):=by
    simp[World.setCell,y7,eF]
   simp only[uC]at hk;obtain⟨arr,T,fz,u,k1,k2,k3⟩:=hk;rw[e2]at k1;injection k1 with k1;injection k1 with k1;subst k1;simp at k2;subst k2;rcases hnew k k3 with h1|h1
   exact .inl (ki k h1);exact .inr (by omega)
theorem Br{f:FuncId}{rest:List SV}{l l':List UInt8}{r:SV}(qf:∀args w,(callFunc f args).run prog w= .ok (.enter f args) w)
 (h:∀(J:Env) (b:Nat) (vs:List Value) (w:World),vX J rest vs->Lib.IsBuilderF TB TU 0 b (Lib.byteCells l) w->
   Calls prog f ⟨.pointer (some ⟨b,0,none⟩)::vs⟩ w fun e w'=> ∃v,e= .returned v/\Den J r v/\Lib.IsBuilderF TB TU 0 b (Lib.byteCells l') w'/\wS b w w'):
 vW prog uv f 1 (.ptr (.loc 0) 0 0 0::rest) [(0, .kH TB TU l)] [] fun r' O nx=>r'=r/\O=[(0, .kH TB TU l')]/\nx=1:=by
 refine⟨fun M vs hP hT hF hS H hd=> .inl ⟨f,by rw[hP];exact qf _ _,?_⟩⟩;obtain⟨uc,rS⟩:=H.own.1 0 _ rfl;simp only[vV]at uc;obtain⟨e,he,hb,hB⟩:=uc;simp only[vX]at hd;obtain⟨u,us,rfl,hu,DI⟩:=hd;simp only[Den]at hu;obtain⟨e',he',rfl⟩:=hu;rw[he]at he';injection he' with he';injection he' with he';subst he'
 rw[hP,hb];refine(h M.η0 e.g us M.w0 DI hB).mono fun en w'=>?_;rintro⟨v,rfl,hv,hB',hst⟩;refine⟨v,rfl,r,_,1,M.η0,⟨rfl,rfl,rfl⟩,zx,⟨zx,H.len,⟨?_,?_⟩,⟨hst.os,hst.tape,hst.output,hst.drawn,hst.size,?_⟩,H.wH⟩,hv⟩
 .intro i g hi;rw[Z6]at hi;split at hi
  .rename_i ei;subst ei;injection hi with hi;subst hi
   refine⟨⟨e,he,hb,hB'⟩,fun k f=>?_⟩;rcases f.of he with rfl|f
   exact rS _ (u5.own he)
   .rcases hst.kids k f with f|f
    exact rS k ⟨e,he, .inr f⟩;exact .inr f
  simp[u6]at hi
 .intro i j g g' k hi hj hij;rw[Z6]at hi hj;split at hi
  .split at hj
   rename_i e1 e2;exact(hij (e1.trans e2.symm)).elim;simp[u6]at hj
  simp[u6]at hi
 .intro k hk FF;refine hst.block k hk (fun hkb=>FF ?_) fun f=>FF ?_;rw[hF];exact⟨0,_,rfl,hkb▸u5.own he⟩;rw[hF];exact⟨0,_,rfl,e,he, .inr f⟩
theorem Z2(l s:List UInt8)(hlen:l.length+s.length<=140737488355328):
 vW prog uv 127 1 [.ptr (.loc 0) 0 0 0, .str s] [(0, .kH TB TU l)] [] fun r O nx=>r= .uI [.int .i64 s.length, .val .nilIface]/\O=[(0, .kH TB TU (l++s))]/\nx=1:=by
 refine Br call127 fun J b vs w hd hB=>?_;simp only[vX,Den]at hd;obtain⟨u,us,rfl,rfl,rfl⟩:=hd;refine(Zkf b _ ⟨s.toArray⟩ w hB (by rw[Lib.byteCells_length];exact hlen)).mono fun e w'=>?_;rintro⟨rfl,h1,h2⟩;refine⟨_,rfl,?_, .inr ?_,h2⟩
 .simp only[Den,vX];exact⟨_,rfl,_,_,rfl,rfl,_,_,rfl,⟨rfl,rfl⟩,rfl⟩
 .have:Lib.byteCells (l++s)=Lib.byteCells l++Lib.strCells ⟨s.toArray⟩:=by simp[Lib.byteCells,Lib.strCells]
  rw[this];exact h1
end Go.Proofs.YtlcbipfmodcedaaGreatDoor
namespace Go.Proofs.YtlcbipfmodcedaaGreatDoor
open Go.Sx Go.RowKit
open _root_.Go.Proofs.Tryz
theorem wS.of{b:Nat}{w w':World}(os:w'.os=w.os)(tape:w'.tape=w.tape)(output:w'.output=w.output)(drawn:w.drawn<=w'.drawn)(size:w.heap.size<=w'.heap.size)(hb:w'.heap[b]?=w.heap[b]?)
 (block:∀k,k<w.heap.size->k≠b->¬uC w b (.kH TB TU []) k->w'.heap[k]?=w.heap[k]?):wS b w w':=⟨os,tape,output,drawn,size,block,fun k f=> .inl (f.keep hb)⟩
theorem Bs(b:Nat)(w:World):wS b w w.drew:= .of rfl rfl rfl (xH _) (zn _) rfl fun _ _ _ _=>rfl
set_option maxHeartbeats 2000000 in
theorem Ziv(b:Nat)(l:List UInt8)(w:World)(h:Lib.IsBuilderF TB TU 0 b (Lib.byteCells l) w)(h0:l≠ []):
 Calls prog 128 #[.pointer (some ⟨b,0,none⟩)] w fun e w'=>e= .returned (.string ⟨l.toArray⟩)/\Lib.IsBuilderF TB TU 0 b (Lib.byteCells l) w'/\wS b w w':=by
 obtain⟨p,hp,hB,v,hbk,hown,hne⟩:∃p,(p= .pointer none\/p= .pointer (some ⟨b,0,none⟩))/\Lib.BuilderAtF TB TU 0 b p (Lib.byteCells l) w:=by
  rcases h with h|h
  exact⟨_, .inl rfl,h⟩;exact⟨_, .inr rfl,h⟩
 have hl0:l.length≠0:=by simpa using h0
 have hA:Lib.BuilderAtF TB TU 0 b p (Lib.byteCells l) w:=⟨hB,v,hbk,hown,hne⟩;rw[Lib.byteCells_length]at hown;rcases hown.2 with⟨_,hz⟩|⟨g,cap,cur,fz,rfl,LX,hg,hfz,hnc,tY,hcs,Gj⟩
 exact absurd hz hl0
 have c1:w.drew.cell? ⟨b,1,none⟩=some (.slice (some ⟨g,0,none⟩) l.length cap):=by
  have:w.drew.heap[b]?=some (.cells #[p, .slice (some ⟨g,0,none⟩) l.length cap] TB (0,0)):=hbk;rw[Lib.cell_of_heap this];rfl
 have Bt:(Builtin.unsafeSliceData_ #[52] 235 #[.slice (some ⟨g,0,none⟩) l.length cap]).run prog w.drew= .ok (.pointer (some ⟨g,0,none⟩)) w.drew:=
  Lib.run_unsafeSliceData_row _ _ _ _ _ _ (by omega)
 have Bu:(Builtin.unsafeString_ #[235,3] 9 #[.pointer (some ⟨g,0,none⟩), .int .i64 l.length]).run prog w.drew= .ok (.string ⟨l.toArray⟩) (w.drew.freeze ⟨g,0,none⟩ l.length):=by
  refine Lib.run_unsafeString_row w.drew 235 3 9 TU underlying235 (by kernel_rfl) g cur.size (by have hg':w.drew.heap[g]?=some (.cells cur TU fz):=hg;simp[World.shape?,hg']) l h0 (by omega) (by unfold maxLen at tY;omega) ?_;intro j x hx;exact hown.cells (g:=g) rfl j (.int .u8 x.toNat) (by simp[Lib.byteCells,hx])
 have hF:=(hA.drew).froze (g:=g) (cap:=cap) (by rw[Lib.byteCells_length];exact c1);rw[Lib.byteCells_length]at hF
 have hkeep:Lib.IsBuilderF TB TU 0 b (Lib.byteCells l) (w.drew.freeze ⟨g,0,none⟩ l.length):=by
  rcases hp with rfl|rfl
  exact .inl hF;exact .inr hF
 have FL:g≠b:=fun e=>hne (by simp[Value.ownBlock,e]);obtain⟨fn,hfr⟩:∃fn,w.drew.freeze ⟨g,0,none⟩ l.length={w.drew with heap:=w.drew.heap.modify g fn}:=⟨_,by unfold World.freeze;rw[z6 hl0]⟩
 have i6:∀k,k≠g->(w.drew.freeze ⟨g,0,none⟩ l.length).heap[k]?=w.heap[k]?:=by
  intro k hk;rw[hfr];show(w.heap.modify g fn)[k]?=w.heap[k]?
  rw[y7,z6 (yO hk)]
 have hst:wS b w (w.drew.freeze ⟨g,0,none⟩ l.length):=by
  refine .of (by rw[hfr];rfl) (by rw[hfr];rfl) (by rw[hfr];rfl) (by rw[hfr];exact xH _) ?_ (i6 b (yO FL)) fun k hk hkb hkk=>i6 k fun e=>hkk ?_
  .rw[hfr];show w.heap.size<=(w.heap.modify g fn).size
   rw[xS];exact zn _
  .subst e;simp only[uC];exact⟨_,_,_,_,hbk,rfl,rfl⟩
 clear hA hF hp hne hB hfr i6;have mixed:prog.follows .mixedOrders=true:=by kernel_rfl
 go_enter func128,ntmps128
 go_wp2
 go_region_o
 all_goals (go_wp2;go_ret;exact⟨rfl,hkeep,hst⟩)
theorem Bv(W:World)(q:Option Addr):(Builtin.unsafeString_ #[235,3] 9 #[.pointer q, .int .i64 0]).run prog W= .ok (.string .empty) W:=Lib.run_unsafeString_none W _ _ _ q
set_option maxHeartbeats 2000000 in
theorem Zkg(b:Nat)(p:Value)(w:World)(hbk:w.heap[b]?=some (.cells #[p, .slice none 0 0] TB (0,0)))(hA:Lib.BuilderAtF TB TU 0 b p [] w):
 Calls prog 128 #[.pointer (some ⟨b,0,none⟩)] w fun e w'=>e= .returned (.string ⟨#[]⟩)/\Lib.BuilderAtF TB TU 0 b p [] w'/\wS b w w':=by
 have Bu:=Bv
 have c1:w.drew.cell? ⟨b,1,none⟩=some (.slice none 0 0):=by
  have:w.drew.heap[b]?=some (.cells #[p, .slice none 0 0] TB (0,0)):=hbk;rw[Lib.cell_of_heap this];rfl
 have Bt:(Builtin.unsafeSliceData_ #[52] 235 #[.slice none 0 0]).run prog w.drew= .ok (.pointer none) w.drew:=rfl;have rT:=hA.drew;have hst:=Bs b w;have mixed:prog.follows .mixedOrders=true:=by kernel_rfl
 go_enter func128,ntmps128
 go_wp2
 go_region_o
 all_goals (go_wp2;go_ret;exact⟨rfl,rT,hst⟩)
set_option maxHeartbeats 2000000 in
theorem ZdO(b g:Nat)(p:Value)(cur:Array Value)(w:World)(hbk:w.heap[b]?=some (.cells #[p, .slice (some ⟨g,0,none⟩) 0 0] TB (0,0)))(fz:Nat×Nat)(hg:w.heap[g]?=some (.cells cur TU fz))(hA:Lib.BuilderAtF TB TU 0 b p [] w):
 Calls prog 128 #[.pointer (some ⟨b,0,none⟩)] w fun e w'=>e= .returned (.string ⟨#[]⟩)/\Lib.BuilderAtF TB TU 0 b p [] w'/\wS b w w':=by
 have Bu:=Bv;have hlt:b<w.heap.size:=(zC.1 hbk).1
 have c1:w.drew.cell? ⟨b,1,none⟩=some (.slice (some ⟨g,0,none⟩) 0 0):=by
  have:w.drew.heap[b]?=some (.cells #[p, .slice (some ⟨g,0,none⟩) 0 0] TB (0,0)):=hbk;rw[Lib.cell_of_heap this];rfl
 have Bt:(Builtin.unsafeSliceData_ #[52] 235 #[.slice (some ⟨g,0,none⟩) 0 0]).run prog w.drew= .ok (.pointer (some ⟨w.drew.heap.size,0,none⟩)) (w.drew.alloc (.view ⟨g,0,none⟩ TU)):=
  Lib.run_unsafeSliceData_zero w.drew _ _ TU underlying235 ⟨g,0,none⟩ 0 (TU,cur.size) (by have hg':w.drew.heap[g]?=some (.cells cur TU fz):=hg;simp[World.shape?,hg'])
 have c2:(w.drew.alloc (.view ⟨g,0,none⟩ TU)).cell? ⟨b,1,none⟩=some (.slice (some ⟨g,0,none⟩) 0 0):=by
  have:(w.drew.alloc (.view ⟨g,0,none⟩ TU)).heap[b]?=_:=(Lib.alloc_old w.drew _ b hlt).trans hbk;rw[Lib.cell_of_heap this];rfl
 have c3:(w.alloc (.view ⟨g,0,none⟩ TU)).drew.cell? ⟨b,1,none⟩=some (.slice (some ⟨g,0,none⟩) 0 0):=c2;have c0:w.cell? ⟨b,1,none⟩=some (.slice (some ⟨g,0,none⟩) 0 0):=c1;have rT:=hA.drew.alloc (.view ⟨g,0,none⟩ TU);have hst:wS b w (w.drew.alloc (.view ⟨g,0,none⟩ TU)):= .of rfl rfl rfl (xH _) (by simp) (Lib.alloc_old w.drew _ b hlt) fun k hk _ _=>Lib.alloc_old w.drew _ k hk;have mixed:prog.follows .mixedOrders=true:=by kernel_rfl
 go_enter func128,ntmps128
 go_wp2
 go_region_o
 all_goals (go_wp2;go_ret;exact⟨rfl,rT,hst⟩)
set_option maxHeartbeats 2000000 in
theorem Ziw(b g cap:Nat)(p:Value)(w:World)(hc0:cap≠0)(hbk:w.heap[b]?=some (.cells #[p, .slice (some ⟨g,0,none⟩) 0 cap] TB (0,0)))(hA:Lib.BuilderAtF TB TU 0 b p [] w):
 Calls prog 128 #[.pointer (some ⟨b,0,none⟩)] w fun e w'=>e= .returned (.string ⟨#[]⟩)/\Lib.BuilderAtF TB TU 0 b p [] w'/\wS b w w':=by
 have Bu:=Bv
 have c1:w.drew.cell? ⟨b,1,none⟩=some (.slice (some ⟨g,0,none⟩) 0 cap):=by
  have:w.drew.heap[b]?=some (.cells #[p, .slice (some ⟨g,0,none⟩) 0 cap] TB (0,0)):=hbk;rw[Lib.cell_of_heap this];rfl
 have Bt:(Builtin.unsafeSliceData_ #[52] 235 #[.slice (some ⟨g,0,none⟩) 0 cap]).run prog w.drew= .ok (.pointer (some ⟨g,0,none⟩)) w.drew:=
  Lib.run_unsafeSliceData_row _ _ _ _ _ _ hc0
 clear hc0;have rT:=hA.drew;have hst:=Bs b w;have mixed:prog.follows .mixedOrders=true:=by kernel_rfl
 go_enter func128,ntmps128
 go_wp2
 go_region_o
 all_goals (go_wp2;go_ret;exact⟨rfl,rT,hst⟩)
theorem Zkh(b:Nat)(l:List UInt8)(w:World)(h:Lib.IsBuilderF TB TU 0 b (Lib.byteCells l) w):
 Calls prog 128 #[.pointer (some ⟨b,0,none⟩)] w fun e w'=>e= .returned (.string ⟨l.toArray⟩)/\Lib.IsBuilderF TB TU 0 b (Lib.byteCells l) w'/\wS b w w':=by
 by_cases h0:l=[]
 .subst h0
  have key:∀p,Lib.BuilderAtF TB TU 0 b p [] w->Calls prog 128 #[.pointer (some ⟨b,0,none⟩)] w fun e w'=>e= .returned (.string ⟨#[]⟩)/\Lib.BuilderAtF TB TU 0 b p [] w'/\wS b w w':=by
   intro p hA;have hA0:=hA;obtain⟨hB,v,hbk,hown,hne⟩:=hA;rcases hown.2 with⟨rfl,_⟩|⟨g,cap,cur,fz,rfl,LX,hg,_⟩
   exact Zkg b p w hbk hA0
   .by_cases hc:cap=0
    subst hc;exact ZdO b g p cur w hbk fz hg hA0;exact Ziw b g cap p w hc hbk hA0
  rcases h with h|h
  exact(key _ h).mono fun e w' ⟨h1,h2,h3⟩=>⟨h1, .inl h2,h3⟩;exact(key _ h).mono fun e w' ⟨h1,h2,h3⟩=>⟨h1, .inr h2,h3⟩
 exact Ziv b l w h h0
theorem LY(l:List UInt8):vW prog uv 128 1 [.ptr (.loc 0) 0 0 0] [(0, .kH TB TU l)] [] fun r O nx=>r= .str l/\O=[(0, .kH TB TU l)]/\nx=1:=by
 refine Br call128 fun η b vs w hd hB=>?_;simp only[vX]at hd;subst hd;refine(Zkh b l w hB).mono fun e w'=>?_;rintro⟨rfl,h1,h2⟩;exact⟨_,rfl,by simp only[Den],h1,h2⟩
open _root_.Go.Proofs.Tryz
theorem R1{b:Nat}{w:World}{p v:Value}(h:w.heap[b]?=some (.cells #[p,v] TB (0,0))){k:Nat}(hk:uC w b (.kH TB TU []) k):v.ownBlock=some k:=by
 simp only[uC]at hk;obtain⟨arr,T,fz,u,k1,k2,k3⟩:=hk;rw[h]at k1;injection k1 with k1;injection k1 with k1;subst k1;simp at k2;subst k2;exact k3
set_option maxHeartbeats 2000000 in
theorem Zki(b cap n:Nat)(ao:Option Addr)(w:World)(hbk:w.heap[b]?=some (.cells #[.pointer (some ⟨b,0,none⟩), .slice ao 0 cap] TB (0,0)))(hc:cap<=n)(hn:n<=35184372088832):
 Calls prog 227 #[.pointer (some ⟨b,0,none⟩), .int .i64 n] w fun e w'=>e= .returned (.tuple #[])/\Lib.BuilderAtF TB TU 0 b (.pointer (some ⟨b,0,none⟩)) [] w'/\wS b w w':=by
 obtain⟨cs,hrun,hle,nL⟩:=Lib.run_makeNoZero (P:=prog) w.drew #[3] 52 TU underlying52 (2*cap+n) (by omega);have nL:=nL (by unfold maxLen;omega);have hlt:b<w.heap.size:=(zC.1 hbk).1
 have hw:IntKind.i64.wrap (IntKind.i64.wrap (2*(cap:Int))+(n:Int))=((2*cap+n:Nat):Int):=by
  rw[IntKind.wrap_i64,IntKind.wrap_i64];omega
 have qf:(callFunc 275 #[.int .i64 (IntKind.i64.wrap (IntKind.i64.wrap (2*(cap:Int))+(n:Int)))]).run prog w.drew= .ok (.value (.slice (some ⟨w.drew.heap.size,0,none⟩) (2*cap+n) cs.size)) (w.drew.drew.drew.alloc (.cells cs TU)):=by
  rw[hw,run_callFunc_extern func275 (by kernel_rfl) (by kernel_rfl) (by kernel_rfl) (e:=Extern.BytealgMakeNoZero.makeNoZero #[3] #[52]) (by kernel_rfl),hrun]
  rfl
 have c1:w.drew.cell? ⟨b,1,none⟩=some (.slice ao 0 cap):=by
  have:w.drew.heap[b]?=_:=hbk;rw[Lib.cell_of_heap this];rfl
 have eF:(w.alloc (.cells cs TU)).heap[b]?=some (.cells #[.pointer (some ⟨b,0,none⟩), .slice ao 0 cap] TB (0,0)):=(Lib.alloc_old w _ b hlt).trans hbk;have c2:(w.alloc (.cells cs TU)).cell? ⟨b,1,none⟩=some (.slice ao 0 cap):=by rw[Lib.cell_of_heap eF];rfl
 have f2:(w.alloc (.cells cs TU)).frozen? ⟨b,1,none⟩=false:=Lib.frozen_of_heap eF 1
 have R2:∀W:World,(Builtin.copy_ #[52,52] 3 #[.slice (some ⟨w.heap.size,0,none⟩) 0 cs.size, .slice ao 0 cap]).run prog W= .ok (goInt 0) W:=
  fun W=>run_copy_none W 52 52 3 TU _ _ 0 cs.size 0 cap underlying52 (by kernel_rfl) rfl
 have hown:(w.alloc (.cells cs TU)).ownsRowF 0 TU 1 (.slice (some ⟨w.heap.size,0,none⟩) 0 cs.size) ([]:List Value).length []:=
  ⟨rfl, .inr ⟨w.heap.size,cs.size,cs,(0,0),rfl,x8 _,heap_alloc_new w _,zn _,x8 _,nL,by simp,by simp⟩⟩
 have hA:=(((Lib.BuilderAtF.put (x8 b) eF hown (by decide)).drew).drew).drew
 have qo:((w.alloc (.cells cs TU)).setCell ⟨b,1,none⟩ (.slice (some ⟨w.heap.size,0,none⟩) 0 cs.size)).heap[b]?=some (.cells #[.pointer (some ⟨b,0,none⟩), .slice (some ⟨w.heap.size,0,none⟩) 0 cs.size] TB (0,0)):=by
  simp[World.setCell,y7,eF]
 have hst:wS b w ((w.alloc (.cells cs TU)).setCell ⟨b,1,none⟩ (.slice (some ⟨w.heap.size,0,none⟩) 0 cs.size)).drew.drew.drew:=by
  refine⟨rfl,rfl,rfl,Nat.le_add_right w.drawn 3,?_,fun k hk hkb _=>?_,fun k hk=>?_⟩
  .show w.heap.size<=((w.alloc (.cells cs TU)).setCell ⟨b,1,none⟩ (.slice (some ⟨w.heap.size,0,none⟩) 0 cs.size)).heap.size
   simp[World.setCell]
  .show((w.alloc (.cells cs TU)).setCell ⟨b,1,none⟩ (.slice (some ⟨w.heap.size,0,none⟩) 0 cs.size)).heap[k]?=w.heap[k]?
   rw[Below.heap_setCell _ _ _ _ (fun e=>hkb (by simp[e]))];exact Lib.alloc_old w _ k hk
  .have h1:=R1 (w:=((w.alloc (.cells cs TU)).setCell ⟨b,1,none⟩ (.slice (some ⟨w.heap.size,0,none⟩) 0 cs.size)).drew.drew.drew) qo hk;simp only[Value.ownBlock,zh]at h1;exact .inr (by omega)
 rw[World.setCell_alloc_past _ _ _ _ hlt]at hA hst;clear hw;have mixed:prog.follows .mixedOrders=true:=by kernel_rfl
 go_enter func227,ntmps227
 go_wp2
 go_region_o
 all_goals (go_wp2;go_end0;exact⟨rfl,hA,hst⟩)
open _root_.Go.Proofs.Tryz
theorem wS.trans{b:Nat}{u v w:World}(h:wS b u v)(k:wS b v w)(hk:∀x,uC v b (.kH TB TU []) x->uC u b (.kH TB TU []) x\/u.heap.size<=x):wS b u w:=
 ⟨k.os.trans h.os,k.tape.trans h.tape,k.output.trans h.output,zK h.drawn k.drawn,zK h.size k.size,fun x hx HS FU=>(k.block x (yI hx h.size) HS (fun f=>(hk x f).elim FU (fun g=>Nat.lt_irrefl _ (yI hx g)))).trans (h.block x hx HS FU),fun x f=>(k.kids x f).elim (hk x) (fun g=> .inr (zK h.size g))⟩
theorem Zge(b:Nat)(l:List Value)(w:World)(h:Lib.IsBuilderF TB TU 0 b l w):
 Calls prog 176 #[.pointer (some ⟨b,0,none⟩)] w fun e w'=>e= .returned (.tuple #[])/\Lib.BuilderAtF TB TU 0 b (.pointer (some ⟨b,0,none⟩)) l w'/\wS b w w':=by
 refine(LW b l w h).mono ?_;rintro e w' ⟨rfl,h1,h2⟩;refine⟨rfl,h1,?_⟩;rcases h2 with rfl|rfl
 exact⟨rfl,rfl,rfl,zn _,zn _,fun _ _ _ _=>rfl,fun _ f=> .inl f⟩
 .refine⟨rfl,rfl,rfl,zn _,by simp[World.setCell],fun k _ hk _=>Below.heap_setCell _ _ _ _ (fun e=>hk (by simp[e])),fun k f=> .inl ?_⟩;obtain⟨_,v,hbk,_,_⟩:=h1;have hv:=R1 hbk f;simp only[World.setCell,y7,z8,zH]at hbk;obtain⟨o,ho,tZ⟩:=hbk;cases o with
  |cells arr T fz=>
   simp only[Obj.cells.injEq]at tZ;obtain⟨a1,a2,a3⟩:=tZ;refine⟨arr,T,fz,v,ho,?_,hv⟩;have:=zf (fun a=>a[1]?) a1;simpa using this
  |_=>cases tZ
set_option maxHeartbeats 2000000 in
theorem Zkj(b n:Nat)(w:World)(h:Lib.IsBuilderF TB TU 0 b [] w)(hn:n<=35184372088832):
 Calls prog 181 #[.pointer (some ⟨b,0,none⟩), .int .i64 n] w fun e w'=>e= .returned (.tuple #[])/\Lib.BuilderAtF TB TU 0 b (.pointer (some ⟨b,0,none⟩)) [] w'/\wS b w w':=by
 have mixed:prog.follows .mixedOrders=true:=by kernel_rfl
 go_enter func181,ntmps181
 go_wp2_with (go_at_call 176;refine(Zge b _ _ h).mono ?_)
 rintro e w1 ⟨rfl,h1,hs⟩;have hA:=h1;obtain⟨hB,v,hbk,hown,hne⟩:=h1
 obtain⟨ao,cap,rfl,tY⟩:∃ao cap,v= .slice ao 0 cap/\cap<=maxLen:=by
  rcases hown.2 with⟨hv,_⟩|⟨g,cap,cur,fz,hv,_,_,_,_,tY,_⟩
  exact⟨none,0,hv,x8 _⟩;exact⟨_,_,hv,tY⟩
 unfold maxLen at tY
 replace tY:cap<=9223372036854775807:=by omega
 have c1:w1.cell? ⟨b,1,none⟩=some (.slice ao 0 cap):=by rw[Lib.cell_of_heap hbk];rfl
 have c1':w1.drew.cell? ⟨b,1,none⟩=some (.slice ao 0 cap):=c1;have hs':wS b w w1.drew:=hs.trans (Bs b w1) (fun x f=>hs.kids x f)
 go_wp2
 go_region_o
 all_goals
  by_cases gh:cap<n
  .go_wp2_with (go_at_call 227;refine(Zki b cap n ao w1.drew hbk (Nat.le_of_lt gh) hn).mono ?_;rintro e w2 ⟨rfl,h3,h4⟩)
   go_end0
   exact⟨rfl,h3,hs'.trans h4 hs'.kids⟩
  .go_wp2
   go_end0
   exact⟨rfl,hA.drew,hs'⟩
theorem ZdS(n:Nat)(hn:n<=35184372088832):vW prog uv 181 1 [.ptr (.loc 0) 0 0 0, .int .i64 (n:Int)] [(0, .kH TB TU [])] [] fun r O nx=>r= .uI []/\O=[(0, .kH TB TU [])]/\nx=1:=by
 refine Br call181 fun η b vs w hd hB=>?_;simp only[vX,Den]at hd;obtain⟨u,us,rfl,rfl,rfl⟩:=hd;refine(Zkj b n w hB hn).mono fun e w'=>?_;rintro⟨rfl,h1,h2⟩;exact⟨_,rfl,by simp only[Den,vX];exact⟨_,rfl,rfl⟩, .inr h1,h2⟩
end Go.Proofs.YtlcbipfmodcedaaGreatDoor
