/- Part 44: RCan10. Conditions: as each part says. -/
import Derived.Test.YtlcbipfmodcedaaGreatDoorRfn37
import Derived.Test.YtlcbipfmodcedaaGreatDoorRfn39
import Derived.Test.YtlcbipfmodcedaaGreatDoorRfn43
set_option linter.unusedVariables false
set_option linter.unusedSimpArgs false
set_option maxRecDepth 20000
set_option maxHeartbeats 8000000
namespace Go.Proofs.YtlcbipfmodcedaaGreatDoor
open Go.Sx Go.Our Go.Lib
open Tryz
def U1:Plan:=(Zu [(0,1),(1,1),(2,1),(3,1),(4,1),(6,1),(7,1),(8,1),(5,2),(9,3),(10,1),(11,3),(12,0),(13,1)])
def U2:Plan:=(Zu [(0,1),(1,1),(2,1),(3,1),(4,1),(5,1),(6,1),(8,1),(9,1),(10,1),(7,2),(11,2),(12,3),(13,1),(14,1)])
def U3:Plan:=(Zu [(0,1),(1,1),(2,1),(3,1),(4,1),(6,1),(7,1),(8,1),(9,1),(10,1),(11,1),(5,2),(12,2),(13,1),(14,2),(15,1),(16,0)])
theorem Zas(col:Nat->Int)(sg:Nat->List Qd):∀l:List Nat,Zt (ndD col sg l)=true
 | []=>rfl
 |x::l=>by
  have:=Zas col sg l;unfold ndD at this⊢;rw[List.map_cons,Zt,this];simp[ndC,Ys,JL,plain,Xb]
instance {col:Nat->Int}{sg:Nat->List Qd}{l:List Nat}:PlD (ndD col sg l):=⟨Zas col sg l⟩
theorem ZgW(T:Tab)(col:Nat->Int)(sg:Nat->List Qd)(x k n:Nat)(a b:Int):List.take x (ndD col sg (List.range x))++List.map (fun row=>List.map (appV T 135) row) (List.take 1 (List.drop 0 [[SV.int .i64 a,SV.int .i64 b,SV.sl (.loc k) 0 16 n none]]))=ndD col sg (List.range x)++ [[.v (.int .i64 a), .v (.int .i64 b), .v (.sl (.loc k) 0 16 n none)]]:=by
 rw[List.take_of_length_le (by simp[ndD])];rfl
theorem ZgX(col:Nat->Int)(sg:Nat->List Qd)(x:Nat){row:List DC}:(ndD col sg (List.range x)++ [row])[x]?=some row:=by
 rw[List.getElem?_append_right (by simp[ndD])];simp[ndD]
theorem Zif(col:Nat->Int)(sg:Nat->List Qd)(x:Nat){sv:SV}:setC (ndD col sg (List.range x)++ [[.v (.int .i64 (x:Int)), .v (.int .i64 (col x)), .v sv]]) x 2 (.kid 16 (((sg x).map Zd).take (sg x).length))=ndD col sg (List.range (x+1)):=by
 rw[List.take_of_length_le (by simp)];unfold setC ndD;rw[List.range_succ,List.map_append];apply List.ext_getElem?;intro i;rw[List.getElem?_modify];by_cases e:x=i
 ·subst e;rw[List.getElem?_append_right (by simp),List.getElem?_append_right (by simp)];simp[ndC]
 ·simp only[e,if_false];by_cases h:i<x
  ·rw[List.getElem?_append_left (by simpa using h),List.getElem?_append_left (by simpa using h)];simp
  ·rw[List.getElem?_eq_none (by simp;omega),List.getElem?_eq_none (by simp;omega)];rfl
theorem Zat(σ:Nat->Nat)(n x:Nat)(sv:SV):renH σ (.rows 1 (JK n x sv))= .rows 1 (JK n x (ren σ sv)):=by
 have go:∀l:List Nat,Xt σ (l.map fun y=>[if y=x then sv else .any])=l.map fun y=>[if y=x then ren σ sv else .any]:=fun l=>by
  induction l with
  |nil=>rfl
  |cons y l ih=>
   simp only[List.map_cons,Xt,renL,ih];by_cases h:y=x
   ·simp[h]
   ·simp[h,ren]
 simp only[renH,JK,go]
theorem ZbG{k n x:Nat}{sv:SV}(h:ZQ k sv=true):Zg k (.rows 1 (JK n x sv))=true:=by
 have go:∀l:List Nat,Yt k (l.map fun y=>[if y=x then sv else .any])=true:=fun l=>by
  induction l with
  |nil=>rfl
  |cons y l ih=>
   simp only[List.map_cons,Yt,ZM,ih];by_cases h2:y=x
   ·simp[h2,h]
   ·simp[h2,ZQ]
 simp only[Zg,JK,go]
theorem ZfS{η:Env}{w:World}{F:Nat->Prop}{i:Nat}{col:Nat->Int}{sg:Nat->List Qd}{o:List Nat}{R:List (List SV)}(hR:RawIs η w i 3 (ndD col sg o) R)
 (hk:∀(r c es':Nat) (rows:List (List SV)) (row:List DC),(ndD col sg o)[r]?=some row->row[c]?=some (.kid es' rows)->Zh rows=true->∃rw1 v,R[r]?=some rw1/\rw1[c]?=some (.val v)/\∀w',FrW w w' F->∃en,LentIn w' v es' rows en):
 ∃v:Nat->Value,(∀j (h:j<o.length),R[j]?=some [.int .i64 (o[j]:Int), .int .i64 (col o[j]), .val (v j)])/\∀j (h:j<o.length) w',FrW w w' F->∃en,LentIn w' (v j) 16 ((sg o[j]).map Zd) en:=by
 have hD:∀j (h:j<o.length),(ndD col sg o)[j]?=some (ndC col sg o[j]):=fun j h=>by unfold ndD;rw[List.getElem?_map,List.getElem?_eq_getElem h];rfl
 have hx:∀j (h:j<o.length),∃v,R[j]?=some [.int .i64 (o[j]:Int), .int .i64 (col o[j]), .val v]/\∀w',FrW w w' F->∃en,LentIn w' v 16 ((sg o[j]).map Zd) en:=fun j h=>by
  obtain⟨r1,a1,a2⟩:=hR.cv j 0 _ _ (hD j h) rfl;obtain⟨r2,b1,b2⟩:=hR.cv j 1 _ _ (hD j h) rfl;obtain⟨r3,v,c1,c2,c3⟩:=hk j 2 _ _ _ (hD j h) rfl (Xb _);rw[a1]at b1 c1;injection b1 with b1;injection c1 with c1;subst b1 c1
  have hl:=hR.lens j _ _ (hD j h) a1;refine⟨v,?_,c3⟩;rw[a1]
  match r1,hl,a2,b2,c2 with
  | [p,q,r],_,a2,b2,c2=>
    simp at a2 b2 c2;rw[a2,b2,c2]
 refine⟨fun j=>match R[j]? with|some [_,_, .val v]=>v|_=>undef,fun j h=>?_,fun j h=>?_⟩
 ·obtain⟨v,h1,_⟩:=hx j h;simp only[h1]
 ·obtain⟨v,h1,h2⟩:=hx j h;simp only[h1];exact h2
theorem W6{A:List LB}{l:List Qd}{cl:List Int}(hl:l.length<=1048576)(x:Nat):(Yc A l cl x).length<=1152921504606846976:=Nat.le_trans (Z6o hl x) (by omega)
theorem Z6s(A:List LB)(l z:List Qd)(lim ll:Option Nat)(cl:List Int)(hOK:CanOK A l cl)(hpk:∀q∈l, ¬q.p.k=2)(hz:(l++z).length<=1152921504606846976):
 Does prog tab 34 6 [.ptr (.loc 0) 0 0 0, .sl (.loc 4) 0 1 A.length none] [(3, .deep false 1 (inK (insV A l))),(4, .rows 1 (cl.map Zk))] [(0,gBx l.length lim A.length ll none),(1, .rows 16 ((l++z).map Zd)),(2, .mp (numT (Xs 0 A A.length)))]
 (fun r O nx=> ∃F,Refs A l cl F/\r= .sl (.loc 6) 0 1 A.length none/\O=[(3, .deep false 1 (inK (insV A l))),(6, .rows 1 (F.map Zk))]/\nx=7):=by
 have hA4:=hOK.few;refine Does.enter Z0 call34 func34 rfl 85 rfl rfl [.tmp 4] rfl ?_;intro w0 F η0 h0;conv=>whnf
 repeat'((first|refine AU ?_|(refine IW ?_ ?_<;>intro h<;>try(exfalso;omega)))<;>conv=>whnf)
 refine LOOP.gok Z0 [0] [] (X:=List Int) (fun c=>CanOK A l c/\∀F,Refs A l c F->Refs A l cl F) (fun c=>[(1, .sl (.loc 6) 0 1 A.length none)]) (fun c=>[(3, .deep false 1 (inK (insV A l))),(6, .rows 1 (c.map Zk))]) 7 (fun c=>A.length-clsN c) cl ⟨hOK,fun F h=>h⟩ ?_;conv=>whnf
 refine⟨by exact GOES.kA h0 [4],?_⟩;rintro c ⟨hc,hR⟩;have hcn:=hc.cn;have hS:=fun x (hx:x<A.length)=>Z9i A l z lim ll c x hx hc.cn hc.few hc.ln hc.nd hc.mem hc.cs hpk hz;have hc1:=Z0L (Yu A l c) none (by rw[YY,hc.cn];omega);have hc0:=Z0L c none (by rw[hc.cn];omega);rw[YY,hc.cn]at hc1;rw[hc.cn]at hc0;conv=>whnf
 repeat'((first|refine AU ?_|(refine IW ?_ ?_<;>intro h<;>try(exfalso;omega)))<;>conv=>whnf)
 refine LOOP.nil 5 3 rfl ?_;refine GHO.loop (GHO.deepen 7 (ndD (colV c) (Yc A l c) (List.range 0)) rfl (by unfold ndD;first|exact .nil|(simp[Z0I]))) ?_;refine LOOP.gok Z0 [0,1] [] (X:=Nat) (fun x=>x<=A.length) (fun x=>[(6, .int .i64 (x:Int)),(5, .sl (.loc 7) 0 3 x none)]) (fun x=>[(3, .deep false 1 (inK (insV A l))),(6, .rows 1 (c.map Zk)),(7, .deep false 3 (ndD (colV c) (Yc A l c) (List.range x)))]) 8 (fun x=>A.length-x) 0 (by omega) ?_;conv=>whnf
 refine⟨by exact GOES.kA h0 [6,7],?_⟩;intro x hx;conv=>whnf
 by_cases hxA:x<A.length
 ·have hs:=hS x hxA;have gC:∀{k:Nat},k=x->(c.map Zk)[k]?=some (Zk (colV c x)):=fun e=>by subst e;unfold colV;rw[List.getElem?_map,List.getD_eq_getElem?_getD,List.getElem?_eq_getElem (by omega)];rfl
  repeat'((first|(show DRAWN _ _ _ _ _ _ _;first|refine DRAWN.of (id:=5) Z0 mixed U1 (by kernel_rfl) ?_|refine DRAWN.of (id:=11) Z0 mixed U2 (by kernel_rfl) ?_|refine DRAWN.of (id:=12) Z0 mixed U3 (by kernel_rfl) ?_)|refine ADD.mk (fun _ _=>?_)|refine AD ?_|refine FORK.mk ?_ ?_|(refine GET.at (gC (by omega)) ?_;conv=>whnf)|refine AU ?_|(refine IW ?_ ?_<;>intro h<;>try(exfalso;omega)))<;>conv=>whnf)
  have hxI:x< (insV A l).length:=by simp[insV];omega
  have hIl:(inK (insV A l)).length=A.length:=by simp[inK,insV]
  have hIx:((insV A l)[x]).map ZT=(atV A l x).map ZT:=by simp[insV]
  refine CALL.kidLent (i:=3) (x:=x) (D:=inK (insV A l)) (rows:=(atV A l x).map ZT) rfl (by rw[Ya hxI,<-hIx];rfl) (ZdB _) (fun η1=>?_);rw[hIl,List.length_map];refine CALL.aA [0,1,2,3,6,5,8] hs ?_ (hbS:=?_) (hS:=?_)
  rotate_left
  ·repeat'(first|(refine Ye rfl ?_ ?_)|exact ZbG rfl|exact WG|exact WH|rfl)
  ·repeat'(first|exact trivial|(with_reducible rfl)|exact(Zat _ _ _ _).symm|exact renR.symm|exact Z74|exact renM.symm|exact Z75|exact rfl|((conv=>whnf);refine And.intro ?_ ?_))
   rw[Zat];rfl
  rintro r O nx ⟨rfl,rfl,rfl⟩;conv=>whnf
  repeat'((first|(show DRAWN _ _ _ _ _ _ _;first|refine DRAWN.of (id:=5) Z0 mixed U1 (by kernel_rfl) ?_|refine DRAWN.of (id:=11) Z0 mixed U2 (by kernel_rfl) ?_|refine DRAWN.of (id:=12) Z0 mixed U3 (by kernel_rfl) ?_)|refine ADD.mk (fun _ _=>?_)|refine AD ?_|refine FORK.mk ?_ ?_|(refine GET.at (gC (by omega)) ?_;conv=>whnf)|(refine NEED.mk (Zj 40 rfl rfl rfl (by simp[ndD]) (by omega)) ?_;conv=>whnf)|refine AU ?_|(refine IW ?_ ?_<;>intro h<;>try(exfalso;omega)))<;>conv=>whnf)
  refine⟨x+1,by omega,by omega,?_⟩;rw[ZgW];conv=>whnf
  refine(GHO.goes (GHO.putk 11 x 2 9 rfl (ZgX _ _ _) rfl rfl (by rw[Zf _ (Xb _),List.length_map];exact Nat.le_refl _) (by decide))).trans ?_;rw[Zf _ (Xb _),Zif];exact GOES.kA h0 [6,11]
 ·have hxe:x=A.length:=by omega
  subst hxe;repeat'((first|refine AU ?_|(refine IW ?_ ?_<;>intro h<;>try(exfalso;omega)))<;>conv=>whnf)
  refine CALL.nodes (col:=colV c) (sg:=Yc A l c) (i:=7) (n:=A.length) rfl rfl (W6 hc.ln) (Z45 hc.cs) (ZgS A l c) (by omega) rfl (by omega) (n1:=9) rfl (fun hn2=>?_) (fun hn2 o po so=>?_)
  ·obtain⟨o,ho⟩:∃o,o=List.range A.length:=⟨_,rfl⟩;have po:o.Perm (List.range A.length):=ho▸List.Perm.refl _;have so:o.Pairwise fun a b=>cNd (colV c) (Yc A l c) a b<=0:=VB (by rw[ho,List.length_range];exact hn2);rw[<-ho];conv=>whnf
   have hol:o.length=A.length:=by rw[po.length_eq,List.length_range]
   have hln:∀x∈o,x<A.length:=fun x hx=>List.mem_range.1 (po.mem_iff.1 hx);have hnd:o.Nodup:=po.symm.nodup List.nodup_range;have hpre:=Vt A l c;have hs:=Z5f so;obtain⟨f,hf⟩:∃f,f=UE A l c:=⟨_,rfl⟩;have hstep:Yu A l c=outW f o A.length o.length:=by rw[Z6l po,hf];unfold Yu;rw[hcn]
   repeat'((first|(refine NEED.mk (Ur 8 rfl (by omega) (by omega) (by omega) (by omega)) ?_;conv=>whnf)|refine AU ?_|(refine IW ?_ ?_<;>intro h<;>try(exfalso;omega)))<;>conv=>whnf)
   rw[Int.toNat_natCast,show List.replicate A.length [SV.int .i64 0]=(List.replicate A.length 0).map Zk by rw[List.map_replicate];rfl,<-Z42 (c:=f) (o:=o)];refine LOOP.rest (i:=7) (O1:=[(8, .rows 1 ((outW f o A.length 0).map Zk)),(3, .deep false 1 (inK (insV A l))),(6, .rows 1 (c.map Zk))]) rfl rfl (fun η w h1 R hRw hk=>?_);obtain⟨v,gR,hv⟩:=ZfS hRw hk;clear hk;have h00:=h0;have h0:=h1;refine LOOP.gok Z0 [0,1,5,7] [] (X:=Nat) (fun i=>i<=o.length) (fun i=>[(8, .int .i64 (i:Int))]) (fun i=>[(3, .deep false 1 (inK (insV A l))),(6, .rows 1 (c.map Zk)),(8, .rows 1 ((outW f o A.length i).map Zk))]) 9 (fun i=>o.length-i) 0 (by omega) ?_;conv=>whnf
   refine⟨by exact GOES.kA h0 [],?_⟩;intro i hi;conv=>whnf
   by_cases hil:i<o.length
   ·have hxn:=hln _ (List.getElem_mem hil);have gO:∀{k m:Nat} (h:k<o.length),m=k->R[m]?=some [.int .i64 (o[k]:Int), .int .i64 (colV c o[k]), .val (v k)]:=fun h e=>by subst e;exact gR _ h
    obtain⟨v0,hv0⟩:∃v0,∀{m:Nat},m=o[i]->((outW f o A.length i).map Zk)[m]?=some (Zk v0):=⟨(outW f o A.length i)[o[i]]'(by rw[Jt];exact hxn),fun e=>by
     subst e;rw[List.getElem?_map,List.getElem?_eq_getElem (by rw[Jt];exact hxn)];rfl⟩
    rcases i with _|j
    ·have hr:=Ww (c:=f) hnd hil hxn (v:=0) (by rw[Z1r (by rw[hf];exact hpre) (by rw[hf];exact hs)];rfl);repeat'((first|(refine GET.at (gO hil (by omega)) ?_;conv=>whnf)|(refine GET.at (hv0 (by omega)) ?_;conv=>whnf)|(show DRAWN _ _ _ _ _ _ _;first|refine DRAWN.of (id:=5) Z0 mixed U1 (by kernel_rfl) ?_|refine DRAWN.of (id:=11) Z0 mixed U2 (by kernel_rfl) ?_|refine DRAWN.of (id:=12) Z0 mixed U3 (by kernel_rfl) ?_)|refine ADD.mk (fun _ _=>?_)|refine AD ?_|refine FORK.mk ?_ ?_|refine AU ?_|(refine IW ?_ ?_<;>intro h<;>try(exfalso;omega)))<;>conv=>whnf)
     all_goals first|(exfalso;omega)|skip
     rw[WR (x:=o[0]) (by omega)];refine⟨1,by omega,by omega,?_⟩;rw[<-hr];conv=>whnf
     exact GOES.kA h0 []
    ·have hj:j<o.length:=by omega
     have hjn:=hln _ (List.getElem_mem hj);have hne:o[j]≠o[j+1]:=fun e=>by have:=(List.getElem_inj hnd).1 e;omega
     have hnx:=Z43 (c:=f) (by rw[hf];exact hpre) (by rw[hf];exact hs) hil;have hset:=fun(v:Int) (hv:v=(rankL f o o[j+1]:Int))=>Ww (c:=f) hnd hil hxn hv;have hgt:=Z6m (c:=f) (n:=A.length) (i:=j+1) (Nat.lt_succ_self j) hj hjn
     have gT:∀{m:Nat},m=o[j]->((outW f o A.length (j+1)).map Zk)[m]?=some (Zk (rankL f o o[j]:Int)):=fun e=>by
      subst e;rw[List.getElem?_map,hgt];rfl
     have hsg:=(Z44 A l c o[j] o[j+1]).2;unfold cRef at hsg;repeat'((first|(refine ADD.mkH (fun η3 w3 H3=>?_);(have hv3:=fun x hx=>hv x hx w3 H3.fr);conv=>whnf)|(refine GET.at (gO hil (by omega)) ?_;conv=>whnf)|(refine GET.at (gO hj (by rw[Z9 (by omega) (by omega)];omega)) ?_;conv=>whnf)|(refine GET.at (hv0 (by omega)) ?_;conv=>whnf)|(refine GET.at (gT (by omega)) ?_;conv=>whnf)|(show DRAWN _ _ _ _ _ _ _;first|refine DRAWN.of (id:=5) Z0 mixed U1 (by kernel_rfl) ?_|refine DRAWN.of (id:=11) Z0 mixed U2 (by kernel_rfl) ?_|refine DRAWN.of (id:=12) Z0 mixed U3 (by kernel_rfl) ?_)|refine ADD.mk (fun _ _=>?_)|refine AD ?_|refine FORK.mk ?_ ?_|(refine CALL.saysW (J8 (o[j]:Int) (o[j+1]:Int) (colV c o[j]) (colV c o[j+1]) (v j) (v (j+1)) (Yc A l c o[j]) (Yc A l c o[j+1]) (W6 hc.ln _) (W6 hc.ln _) (Z45 hc.cs _) (Z45 hc.cs _)) (fun η' w' H'=>⟨(let⟨en,h⟩:=hv3 j hj;⟨en,h.now H'.fr (fun k h=>h)⟩),(let⟨en,h⟩:=hv3 (j+1) hil;⟨en,h.now H'.fr (fun k h=>h)⟩)⟩) rfl rfl ?_;conv=>whnf)|refine AU ?_|(refine IW ?_ ?_<;>intro h<;>try(exfalso;omega)))<;>conv=>whnf)
     all_goals first
      |(exfalso;omega)
      |(have hr:=hset (rankL f o o[j]:Int) (by rw[hnx,if_pos (by rw[hf];omega)]);rw[WR (x:=o[j+1]) (by omega),hr];refine⟨j+2,by omega,by omega,?_⟩;(conv=>whnf);exact GOES.kA h0 [])
      |(have hr:=hset ((j+1:Nat):Int) (by rw[hnx,if_neg (by rw[hf];omega)]);rw[WR (x:=o[j+1]) (by omega),hr];refine⟨j+2,by omega,by omega,?_⟩;(conv=>whnf);exact GOES.kA h0 [])
   ·have hie:i=o.length:=by omega
    have h0:=h00;subst hie;rw[<-hstep];repeat'((first|refine AU ?_|(refine IW ?_ ?_<;>intro h<;>try(exfalso;omega)))<;>conv=>whnf)
    refine CALL.aA [8] (hc1) ?_;rintro r O nx ⟨rfl,rfl,rfl⟩;conv=>whnf
    repeat'((first|refine AU ?_|(refine IW ?_ ?_<;>intro h<;>try(exfalso;omega)))<;>conv=>whnf)
    refine CALL.aA [6] (hc0) ?_;rintro r O nx ⟨rfl,rfl,rfl⟩;conv=>whnf
    repeat'((first|refine AU ?_|(refine IW ?_ ?_<;>intro h<;>try(exfalso;omega)))<;>conv=>whnf)
    ·have hst:clsN (Yu A l c)=clsN c:=by omega
     exact FIN.aA h0 [8] (.sl (.loc 6) 0 1 A.length none) [(3, .deep false 1 (inK (insV A l))),(6, .rows 1 ((Yu A l c).map Zk))] ⟨_,hR _ (.stop hst),rfl,rfl,rfl⟩
    ·have hst:clsN (Yu A l c)≠clsN c:=by omega
     have hge:=Z69 A l c;have hle:=Z99 (Yu A l c);rw[YY,hc.cn]at hle;refine⟨Yu A l c,⟨hc.step,fun F hF=>hR F (.go hst hF)⟩,by omega,?_⟩;conv=>whnf
     exact GOES.kA h0 [8]
  ·conv=>whnf
   have hol:o.length=A.length:=by rw[po.length_eq,List.length_range]
   have hln:∀x∈o,x<A.length:=fun x hx=>List.mem_range.1 (po.mem_iff.1 hx);have hnd:o.Nodup:=po.symm.nodup List.nodup_range;have hpre:=Vt A l c;have hs:=Z5f so;obtain⟨f,hf⟩:∃f,f=UE A l c:=⟨_,rfl⟩;have hstep:Yu A l c=outW f o A.length o.length:=by rw[Z6l po,hf];unfold Yu;rw[hcn]
   repeat'((first|(refine NEED.mk (Ur 8 rfl (by omega) (by omega) (by omega) (by omega)) ?_;conv=>whnf)|refine AU ?_|(refine IW ?_ ?_<;>intro h<;>try(exfalso;omega)))<;>conv=>whnf)
   rw[Int.toNat_natCast,show List.replicate A.length [SV.int .i64 0]=(List.replicate A.length 0).map Zk by rw[List.map_replicate];rfl,<-Z42 (c:=f) (o:=o)];refine LOOP.rest (i:=8) (O1:=[(9, .rows 1 ((outW f o A.length 0).map Zk)),(3, .deep false 1 (inK (insV A l))),(6, .rows 1 (c.map Zk))]) rfl rfl (fun η w h1 R hRw hk=>?_);obtain⟨v,gR,hv⟩:=ZfS hRw hk;clear hk;have h00:=h0;have h0:=h1;refine LOOP.gok Z0 [0,1,5,7] [] (X:=Nat) (fun i=>i<=o.length) (fun i=>[(8, .int .i64 (i:Int))]) (fun i=>[(3, .deep false 1 (inK (insV A l))),(6, .rows 1 (c.map Zk)),(9, .rows 1 ((outW f o A.length i).map Zk))]) 10 (fun i=>o.length-i) 0 (by omega) ?_;conv=>whnf
   refine⟨by exact GOES.kA h0 [],?_⟩;intro i hi;conv=>whnf
   by_cases hil:i<o.length
   ·have hxn:=hln _ (List.getElem_mem hil);have gO:∀{k m:Nat} (h:k<o.length),m=k->R[m]?=some [.int .i64 (o[k]:Int), .int .i64 (colV c o[k]), .val (v k)]:=fun h e=>by subst e;exact gR _ h
    obtain⟨v0,hv0⟩:∃v0,∀{m:Nat},m=o[i]->((outW f o A.length i).map Zk)[m]?=some (Zk v0):=⟨(outW f o A.length i)[o[i]]'(by rw[Jt];exact hxn),fun e=>by
     subst e;rw[List.getElem?_map,List.getElem?_eq_getElem (by rw[Jt];exact hxn)];rfl⟩
    rcases i with _|j
    ·have hr:=Ww (c:=f) hnd hil hxn (v:=0) (by rw[Z1r (by rw[hf];exact hpre) (by rw[hf];exact hs)];rfl);repeat'((first|(refine GET.at (gO hil (by omega)) ?_;conv=>whnf)|(refine GET.at (hv0 (by omega)) ?_;conv=>whnf)|(show DRAWN _ _ _ _ _ _ _;first|refine DRAWN.of (id:=5) Z0 mixed U1 (by kernel_rfl) ?_|refine DRAWN.of (id:=11) Z0 mixed U2 (by kernel_rfl) ?_|refine DRAWN.of (id:=12) Z0 mixed U3 (by kernel_rfl) ?_)|refine ADD.mk (fun _ _=>?_)|refine AD ?_|refine FORK.mk ?_ ?_|refine AU ?_|(refine IW ?_ ?_<;>intro h<;>try(exfalso;omega)))<;>conv=>whnf)
     all_goals first|(exfalso;omega)|skip
     rw[WR (x:=o[0]) (by omega)];refine⟨1,by omega,by omega,?_⟩;rw[<-hr];conv=>whnf
     exact GOES.kA h0 []
    ·have hj:j<o.length:=by omega
     have hjn:=hln _ (List.getElem_mem hj);have hne:o[j]≠o[j+1]:=fun e=>by have:=(List.getElem_inj hnd).1 e;omega
     have hnx:=Z43 (c:=f) (by rw[hf];exact hpre) (by rw[hf];exact hs) hil;have hset:=fun(v:Int) (hv:v=(rankL f o o[j+1]:Int))=>Ww (c:=f) hnd hil hxn hv;have hgt:=Z6m (c:=f) (n:=A.length) (i:=j+1) (Nat.lt_succ_self j) hj hjn
     have gT:∀{m:Nat},m=o[j]->((outW f o A.length (j+1)).map Zk)[m]?=some (Zk (rankL f o o[j]:Int)):=fun e=>by
      subst e;rw[List.getElem?_map,hgt];rfl
     have hsg:=(Z44 A l c o[j] o[j+1]).2;unfold cRef at hsg;repeat'((first|(refine ADD.mkH (fun η3 w3 H3=>?_);(have hv3:=fun x hx=>hv x hx w3 H3.fr);conv=>whnf)|(refine GET.at (gO hil (by omega)) ?_;conv=>whnf)|(refine GET.at (gO hj (by rw[Z9 (by omega) (by omega)];omega)) ?_;conv=>whnf)|(refine GET.at (hv0 (by omega)) ?_;conv=>whnf)|(refine GET.at (gT (by omega)) ?_;conv=>whnf)|(show DRAWN _ _ _ _ _ _ _;first|refine DRAWN.of (id:=5) Z0 mixed U1 (by kernel_rfl) ?_|refine DRAWN.of (id:=11) Z0 mixed U2 (by kernel_rfl) ?_|refine DRAWN.of (id:=12) Z0 mixed U3 (by kernel_rfl) ?_)|refine ADD.mk (fun _ _=>?_)|refine AD ?_|refine FORK.mk ?_ ?_|(refine CALL.saysW (J8 (o[j]:Int) (o[j+1]:Int) (colV c o[j]) (colV c o[j+1]) (v j) (v (j+1)) (Yc A l c o[j]) (Yc A l c o[j+1]) (W6 hc.ln _) (W6 hc.ln _) (Z45 hc.cs _) (Z45 hc.cs _)) (fun η' w' H'=>⟨(let⟨en,h⟩:=hv3 j hj;⟨en,h.now H'.fr (fun k h=>h)⟩),(let⟨en,h⟩:=hv3 (j+1) hil;⟨en,h.now H'.fr (fun k h=>h)⟩)⟩) rfl rfl ?_;conv=>whnf)|refine AU ?_|(refine IW ?_ ?_<;>intro h<;>try(exfalso;omega)))<;>conv=>whnf)
     all_goals first
      |(exfalso;omega)
      |(have hr:=hset (rankL f o o[j]:Int) (by rw[hnx,if_pos (by rw[hf];omega)]);rw[WR (x:=o[j+1]) (by omega),hr];refine⟨j+2,by omega,by omega,?_⟩;(conv=>whnf);exact GOES.kA h0 [])
      |(have hr:=hset ((j+1:Nat):Int) (by rw[hnx,if_neg (by rw[hf];omega)]);rw[WR (x:=o[j+1]) (by omega),hr];refine⟨j+2,by omega,by omega,?_⟩;(conv=>whnf);exact GOES.kA h0 [])
   ·have hie:i=o.length:=by omega
    have h0:=h00;subst hie;rw[<-hstep];repeat'((first|refine AU ?_|(refine IW ?_ ?_<;>intro h<;>try(exfalso;omega)))<;>conv=>whnf)
    refine CALL.aA [9] (hc1) ?_;rintro r O nx ⟨rfl,rfl,rfl⟩;conv=>whnf
    repeat'((first|refine AU ?_|(refine IW ?_ ?_<;>intro h<;>try(exfalso;omega)))<;>conv=>whnf)
    refine CALL.aA [6] (hc0) ?_;rintro r O nx ⟨rfl,rfl,rfl⟩;conv=>whnf
    repeat'((first|refine AU ?_|(refine IW ?_ ?_<;>intro h<;>try(exfalso;omega)))<;>conv=>whnf)
    ·have hst:clsN (Yu A l c)=clsN c:=by omega
     exact FIN.aA h0 [9] (.sl (.loc 6) 0 1 A.length none) [(3, .deep false 1 (inK (insV A l))),(6, .rows 1 ((Yu A l c).map Zk))] ⟨_,hR _ (.stop hst),rfl,rfl,rfl⟩
    ·have hst:clsN (Yu A l c)≠clsN c:=by omega
     have hge:=Z69 A l c;have hle:=Z99 (Yu A l c);rw[YY,hc.cn]at hle;refine⟨Yu A l c,⟨hc.step,fun F hF=>hR F (.go hst hF)⟩,by omega,?_⟩;conv=>whnf
     exact GOES.kA h0 [9]
end Go.Proofs.YtlcbipfmodcedaaGreatDoor
