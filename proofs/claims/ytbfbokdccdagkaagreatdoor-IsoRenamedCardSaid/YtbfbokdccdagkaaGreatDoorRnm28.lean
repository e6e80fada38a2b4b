/- Part 28: FindZ, Sizes. Conditions: as each part says. -/
import Derived.Test.YtbfbokdccdagkaaGreatDoorRnm24
import Derived.Test.YtbfbokdccdagkaaGreatDoorRnm27
set_option linter.unusedVariables false
set_option linter.unusedSimpArgs false
set_option maxRecDepth 20000
set_option maxHeartbeats 8000000
namespace Go.Proofs.YtbfbokdccdagkaaGreatDoor
open Go.Sx Go.Our
theorem Z7G{l:List Qd}{x:Nat}(hx:x< (Z0 l).length):(ZA l).getD x []=(l.filter fun q=>decide ((x:Int)∈ownM (ixF 0 (Z0 l)) q)).map (sdM (ixF 0 (Z0 l))):=by
 have h3:x< (ZA l).length:=by rw[Xl];exact hx
 rw[List.getD_eq_getElem?_getD,List.getElem?_eq_getElem h3,Option.getD_some];have h4:x< (List.replicate (Z0 l).length ([]:List Sd)).length:=by rw[List.length_replicate];exact hx
 have e2:=Ve (f:=ixF 0 (Z0 l)) (l:=l) h4 h3 fun q hq n hn=>(Z0N (c:=0) (by omega) l q hq n hn).1;refine e2.trans ?_;rw[List.getElem_replicate,List.nil_append]
section
variable {a b:List Qd}{zs:List Nat}(h:Maps a b zs)
include h
theorem Maps.num0{q:Qd}(hq:q∈a){t:Tm}(ht:t∈Zt q)(hk:t.k=2):∃i,∃(hi:i<zs.length),numM (ixF 0 (Z0 a)) t=(i:Int)/\numM (ixF 0 (Z0 b)) (renT (prsM (Z0 a) (Z0 b) zs) t)=((zs[i]:Nat):Int):=by
 obtain⟨i,hi,hA,hB,h1,h2,h3,h4⟩:=h.yes hq ht hk;refine⟨i,hi,h2,?_⟩;rw[h3];unfold numM;rw[if_pos hk,Z56 (List.getElem_mem hB)];show(0:Int)+(((Z0 b).idxOf (Z0 b)[zs[i]]:Nat):Int)=_
 rw[(YB b).idxOf_getElem _ hB];omega
theorem Maps.own0{i:Nat}(hi:i<zs.length){q:Qd}(hq:q∈a):(((zs[i]:Nat):Int)∈ownM (ixF 0 (Z0 b)) (renQ (prsM (Z0 a) (Z0 b) zs) q))<->((i:Int)∈ownM (ixF 0 (Z0 a)) q):=by
 rw[own_mem,own_mem,Z5d];have num_of:∀(f:LB->Int) (t:Tm),t.k=2->numM f t=f t.t:=fun f t hk=>if_pos hk;constructor
 ·rintro⟨t',ht',hk,he⟩;obtain⟨t,ht,rfl⟩:=List.mem_map.1 ht';rw[Jg]at hk;obtain⟨j,hj,h2,h4⟩:=h.num0 hq ht hk;rw[<-num_of (ixF 0 (Z0 b)) (renT (prsM (Z0 a) (Z0 b) zs) t) (by rw[Jg];exact hk),h4]at he;have hji:j=i:=(List.getElem_inj h.nd).1 (by omega);subst hji;exact⟨t,ht,hk,by rw[<-num_of (ixF 0 (Z0 a)) t hk,h2]⟩
 ·rintro⟨t,ht,hk,he⟩;obtain⟨j,hj,h2,h4⟩:=h.num0 hq ht hk;rw[<-num_of (ixF 0 (Z0 a)) t hk,h2]at he;have hji:j=i:=by omega
  subst hji;exact⟨_,List.mem_map_of_mem ht,by rw[Jg];exact hk,by rw[<-num_of (ixF 0 (Z0 b)) (renT (prsM (Z0 a) (Z0 b) zs) t) (by rw[Jg];exact hk),h4]⟩
theorem Maps.seeR{q:Qd}(hq:q∈a){t:Tm}(ht:t∈Zt q):SeeR zs (numM (ixF 0 (Z0 a)) t) (numM (ixF 0 (Z0 b)) (renT (prsM (Z0 a) (Z0 b) zs) t)) t (renT (prsM (Z0 a) (Z0 b) zs) t):=by
 by_cases hk:t.k=2
 ·obtain⟨i,hi,h1,h2⟩:=h.num0 hq ht hk;exact .inr ⟨i,hi,h1,h2⟩
 ·rw[Z3W hk];have e1:∀f:LB->Int,numM f t= -1:=fun f=>if_neg hk;exact .inl ⟨by rw[e1];omega,by rw[e1];omega,rfl⟩
theorem Maps.wor:WorR zs (ZA a) (ZA b):=by
 refine⟨by rw[h.len];exact h.perm,fun i hi=>⟨fun s=>sdM (ixF 0 (Z0 b)) (renQ (prsM (Z0 a) (Z0 b) zs) s.q),?_,?_⟩⟩
 ·have hz:=h.lt _ (List.getElem_mem hi);rw[Z7G (by rw[h.lb];exact hz),Z7G (by rw[<-h.len];exact hi),List.map_map];refine((h.img.filter _).map _).trans ?_;rw[List.filter_map,List.map_map]
  have e1:a.filter ((fun q=>decide (((zs[i]:Nat):Int)∈ownM (ixF 0 (Z0 b)) q))∘renQ (prsM (Z0 a) (Z0 b) zs))=a.filter fun q=>decide ((i:Int)∈ownM (ixF 0 (Z0 a)) q):=by
   refine List.filter_congr fun q hq=>?_;simp only[Function.comp_apply];rw[Bool.eq_iff_iff,decide_eq_true_iff,decide_eq_true_iff];exact h.own0 hi hq
  rw[e1];exact List.Perm.of_eq rfl
 ·intro s hs;rw[Z7G (by rw[<-h.len];exact hi)]at hs;obtain⟨q,hq,rfl⟩:=List.mem_map.1 hs;have hq:=(List.mem_filter.1 hq).1;exact⟨h.seeR hq (t:=q.s) (by simp[Zt]),h.seeR hq (t:=q.p) (by simp[Zt]),h.seeR hq (t:=q.o) (by simp[Zt]),h.seeR hq (t:=q.g) (by simp[Zt])⟩
def cntM(F:List Int)(c:Int):List Nat:=(List.range c.toNat).map fun k:Nat=>F.count (k:Int)
omit h in
theorem Settles.alike{I I':List (List Sd)}(hw:WorR zs I I'){cl:List Int}{ct:Int}{F:List Int}{c:Int}(hs:Settles I cl ct F c):∀{cl' F':List Int} {c':Int},ClsR zs cl cl'->(∀c∈cl,0<=c)->(∀c∈cl',0<=c)->Settles I' cl' ct F' c'->(cntM F c).Perm (cntM F' c'):=by
 induction hs with
 |stop hn=>
  intro cl' F' c' hc hp hp' hs';obtain⟨h1,h2,h3⟩:=hw.next hc hp hp';cases hs' with
  |stop hn'=>
   unfold cntM;rw[Int.toNat_natCast,Int.toNat_natCast,Z3Z,Z3Z];exact h3
  |go hy _=>exact(hn (by unfold Ya at hy⊢;rw[h1];exact hy)).elim
 |go hy _ ih=>
  intro cl' F' c' hc hp hp' hs';obtain⟨h1,h2,h3⟩:=hw.next hc hp hp';cases hs' with
  |stop hn=>exact(hn (by unfold Ya at hy⊢;rw[<-h1];exact hy)).elim
  |go _ k=>
   exact ih h2 (fun c hm=>(Ur _ c hm).1) (fun c hm=>(Ur _ c hm).1) (by unfold Ya at k⊢;rw[h1];exact k)
theorem Maps.sizes{F F':List Int}{c c':Int}(hs:Settles (ZA a) (List.replicate (Z0 a).length 0) (ct0 (Z0 a).length) F c)(hs':Settles (ZA b) (List.replicate (Z0 b).length 0) (ct0 (Z0 b).length) F' c'):(cntM F c).Perm (cntM F' c'):=by
 have hn:∀n:Nat,∀c∈List.replicate n (0:Int),(0:Int)<=c:=fun n c hm=>by rw[List.eq_of_mem_replicate hm];omega
 rw[h.lb]at hs';refine hs.alike h.wor ⟨by rw[List.length_replicate,h.len],by rw[List.length_replicate,h.len],fun _=>0,?_,?_⟩ (hn _) (hn _) hs'
 ·apply List.ext_getElem (by rw[List.length_map,List.length_map,List.length_replicate,h.len]);intro i h1 h2;rw[List.getElem_map,List.getElem_map,List.getD_eq_getElem?_getD,List.getElem?_replicate];split<;>rfl
 ·intro x hx y hy _;rw[List.eq_of_mem_replicate hx,List.eq_of_mem_replicate hy]
end
theorem Z40:∀(F:List Int) (A:List LB) (out:List (List LB)),F.length=A.length->(∀c∈F,0<=c)->∀k (hk:k<out.length),(((F.zip A).foldl putC out)[k]'(by rw[U1];exact hk)).length=out[k].length+F.count (k:Int)
 | [],A,out,_,_,k,hk=>by simp
 |c::F,[],out,h,_,k,hk=>by simp at h
 |c::F,x::A,out,h,h0,k,hk=>by
  have ih:=Z40 F A (putC out (c,x)) (by simpa using h) (fun d hd=>h0 d (List.mem_cons_of_mem _ hd)) k (by rw[Z8y];exact hk);have hc:=h0 c (List.mem_cons_self ..);simp only[List.zip_cons_cons,List.foldl_cons];rw[ih,List.count_cons];unfold putC;rw[List.getElem_modify];by_cases e:c=(k:Int)
  ·subst e;simp;omega
  ·rw[if_neg (show ¬c.toNat=k by omega)];simp[e]
theorem Z6D{F:List Int}{A:List LB}{c:Int}(hl:F.length=A.length)(h0:∀x∈F,0<=x):(XW F A c.toNat).map List.length=cntM F c:=by
 have hn:(XW F A c.toNat).length=c.toNat:=by unfold XW;rw[U1,List.length_replicate]
 unfold cntM;apply List.ext_getElem (by rw[List.length_map,List.length_map,List.length_range,hn]);intro i h1 h2;rw[List.length_map,hn]at h1;rw[List.getElem_map,List.getElem_map,List.getElem_range];have:=Z40 F A (List.replicate c.toNat []) hl h0 i (by rw[List.length_replicate];exact h1);rw[List.getElem_replicate]at this;simpa[XW]using this
def szM(L:List Nat):List Int:=(List.range 65).map fun k=>((L.map fun n=>min n 64).count k:Int)
theorem ZfO{L M:List Nat}(h:L.Perm M):szM L=szM M:=List.map_congr_left fun k _=>by rw[(h.map _).count_eq k]
theorem Z2N(L:List Nat):(szM L).length=65:=by simp[szM]
theorem Zci{L:List Nat}{k:Nat}(h:k<65):(szM L)[k]?=some ((L.map fun n=>min n 64).count k:Int):=by unfold szM;rw[List.getElem?_map,List.getElem?_range h];rfl
theorem ZfP{L:List Nat}{n k:Nat}(hk:k=min n 64):szM (L++ [n])=(szM L).set k (((L.map fun n=>min n 64).count k:Int)+1):=by
 have hk65:k<65:=by omega
 have hc:∀i:Nat,(((L++ [n]).map fun n=>min n 64).count i:Int)=((L.map fun n=>min n 64).count i:Int)+(if k=i then 1 else 0):=fun i=>by
  rw[List.map_append,List.count_append,List.map_cons,List.map_nil,List.count_cons,List.count_nil,<-hk];by_cases e:k=i
  ·subst e;simp
  ·simp[e]
 apply List.ext_getElem?;intro i;rw[List.getElem?_set];by_cases hi:i<65
 ·rw[Zci hi,hc];by_cases e:k=i
  ·subst e;rw[if_pos rfl,if_pos rfl,if_pos (by rw[Z2N];exact hi)]
  ·rw[if_neg e,if_neg e,Zci hi,Int.add_zero]
 ·rw[List.getElem?_eq_none (by rw[Z2N];omega),if_neg (by omega),List.getElem?_eq_none (by rw[Z2N];omega)]
end Go.Proofs.YtbfbokdccdagkaaGreatDoor
namespace Go.Proofs.YtbfbokdccdagkaaGreatDoor
open Go.Sx Go.Our
open Tryz
theorem ZdS{out:List (List LB)}{i k n:Nat}{sv:SV}(h:i<out.length)(hk:k=i)(hn:n=out[i].length):setC (setC (lbD out) k 0 (.v sv)) i 0 (.kid 1 ((out[i].map Z3).take n))=lbD out:=ZbR (es:=1) (f:=Z3) h hk hn
theorem ZdT{out:List (List LB)}{i k n:Nat}{sv:SV}(h:i<out.length)(hk:k=i)(hn:n=out[i].length):setC ((lbD out).modify k fun row=>row.set 0 (DC.v sv)) i 0 (.kid 1 ((out[i].map Z3).take n))=lbD out:=by
 subst hk;exact ZdS h rfl hn
theorem ZdU{out:List (List LB)}{i k:Nat}(h:i<out.length)(hk:k=i):Z0O (lbD out) k 0=some (k, .kid 1 (out[i].map Z3)):=by
 subst hk;unfold Z0O;rw[Z8x h];rfl
theorem Z41(out:List (List LB))(hl:out.length<=67108864)(hb:∀x∈out,x.length<=67108864):
 Does prog tab 33 1 [.sl (.loc 0) 0 1 out.length none] [(0, .deep false 1 (lbD out))] []
 (fun r O nx=>r= .arr 1 ((szM (out.map List.length)).map Zg)/\O=[]/\nx=1):=by
 obtain⟨L,hL⟩:∃L,L=out.map List.length:=⟨_,rfl⟩;have hLl:L.length=out.length:=by rw[hL,List.length_map]
 rw[<-hL];refine Does.enter Z1 call33 func33 rfl 22 rfl rfl [.cell 2 59] rfl ?_;intro w0 F η0 h0;conv=>whnf
 repeat'((first|refine AU ?_|(refine IW ?_ ?_<;>intro h<;>try(exfalso;omega)))<;>conv=>whnf)
 refine LOOP.gok Z1 [0,2,3] [] (X:=Nat) (fun i=>i<=out.length) (fun i=>[(4, .int .i64 (i:Int))]) (fun i=>[(0, .deep false 1 (lbD out)),(1, .rows 1 ((szM []).map Zg)),(2, .rows 1 ((szM (L.take i)).map Zg))]) 3 (fun i=>out.length-i) 0 (by omega) ?_;conv=>whnf
 refine⟨by exact GOES.cA h0,?_⟩;intro i hi;conv=>whnf
 by_cases hil:i<out.length
 ·have hbi:=hb _ (List.getElem_mem hil)
  have gZ:∀{k:Nat},k=min out[i].length 64->((szM (L.take i)).map Zg)[k]?=some (Zg (((L.take i).map fun n=>min n 64).count k:Int)):=fun{k} hk=>by
   rw[List.getElem?_map,Zci (show k<65 by omega)];rfl
  have hcl:∀k,((L.take i).map fun n=>min n 64).count k<=i:=fun k=>Nat.le_trans List.count_le_length (by rw[List.length_map,List.length_take];omega);have hLi:L[i]'(by omega)=out[i].length:=by simp[hL]
  have hsn:=fun k=>ZfP (L:=L.take i) (n:=out[i].length) (k:=k);have htk:L.take (i+1)=L.take i++ [out[i].length]:=by rw[List.take_succ_eq_append_getElem (by omega),hLi]
  rw[<-htk]at hsn;obtain⟨m,hm⟩:∃m,m=min out[i].length 64:=⟨_,rfl⟩;have hmi:(if 64< ((out[i].map Z3).length:Int)then 64 else((out[i].map Z3).length:Int))=(m:Int):=by rw[List.length_map];split<;>omega
  repeat'((first|(refine FINDD.at (ZdU hil (by omega)) ?_;conv=>whnf)|(rw[hmi];refine GET.at (gZ (by omega)) ?_;conv=>whnf)|(refine GET.at (gZ (by omega)) ?_;conv=>whnf)|refine AU ?_|(refine IW ?_ ?_<;>intro h<;>try(exfalso;omega)))<;>conv=>whnf)
  refine⟨i+1,by omega,by omega,?_⟩
  have hse:((szM (L.take i)).map Zg).set ((m:Nat):Int).toNat [.int .i64 (IntKind.i64.wrap (((List.count ((m:Nat):Int).toNat ((L.take i).map fun n=>min n 64):Nat):Int)+1))]=(szM (L.take (i+1))).map Zg:=by
   have:=hcl m;rw[Int.toNat_natCast,Z5 (by omega) (by omega),hsn m hm,List.map_set];rfl
  rw[hse];conv=>whnf
  refine GOES.trans (GHO.goes (GHO.putk 0 i 0 3 rfl (Z7v hil (by omega)) rfl rfl (by rw[List.length_map];exact Nat.le_refl _) (by decide))) ?_;rw[ZdT hil (by omega) (by rw[List.length_map])];exact GOES.cA h0
 ·have hie:i=out.length:=by omega
  subst hie;rw[List.take_of_length_le (by omega)];repeat'((first|(refine NEED.mk (And.intro rfl (And.intro rfl (And.intro rfl (And.intro (by rw[List.length_map,Z2N]) (by rw[List.length_map,Z2N]))))) ?_;conv=>whnf)|(refine NEED.mk ⟨rfl,rfl,by rw[List.length_map,Z2N]⟩ ?_;conv=>whnf)|refine AU ?_|(refine IW ?_ ?_<;>intro h<;>try(exfalso;omega)))<;>conv=>whnf)
  exact FIN.aA h0 [] (.arr 1 ((szM L).map Zg)) [] ⟨rfl,rfl,rfl⟩
end Go.Proofs.YtbfbokdccdagkaaGreatDoor
