/- Part 32: Can2, Can3, Can4. Conditions: as each part says. -/
import Derived.Test.YtlcbipfmodcedaaGreatDoorRfn31
set_option linter.unusedVariables false
set_option linter.unusedSimpArgs false
set_option maxRecDepth 20000
set_option maxHeartbeats 8000000
namespace Go.Proofs.YtlcbipfmodcedaaGreatDoor
open Go.Sx Go.Our
open Tryz
def ZdC:Plan:=(Zu [(1,1),(5,1),(10,1),(14,1),(0,2),(2,1),(3,2),(4,2),(6,1),(7,2),(9,2),(11,1),(12,2),(13,2),(15,1),(16,2),(8,3),(17,3),(18,3),(19,3),(20,1)])
theorem Zbz{a b:List Qd}{i:Nat}(ha:i<a.length)(hb:i<b.length):Yg (a.drop i) (b.drop i)=if Xd a[i] b[i]=0 then Yg (a.drop (i+1)) (b.drop (i+1))else Xd a[i] b[i]:=by
 rw[List.drop_eq_getElem_cons ha,List.drop_eq_getElem_cons hb];rfl
theorem ZbA(a b:List Qd)(la lb:Option Nat)(ha:a.length<=1152921504606846976)(hb:b.length<=1152921504606846976):Does prog tab 37 2 [.sl (.loc 0) 0 16 a.length la, .sl (.loc 1) 0 16 b.length lb] [] [(0, .rows 16 (a.map Zd)),(1, .rows 16 (b.map Zd))] (ValK 2 (.int .i64 (Yg a b))):=by
 have hC:Does prog tab 76 2 [.sl (.loc 0) 0 16 a.length la, .sl (.loc 1) 0 16 b.length lb, .fn (.func 47) [] []] [] [(0, .rows 16 (a.map Zd)),(1, .rows 16 (b.map Zd))] (ValK 2 (.int .i64 (Yg a b))):=by
  have gA:∀{i k:Nat} (h:i<a.length),k=i->(a.map Zd)[k]?=some (Zd a[i]):=fun h e=>by subst e;rw[List.getElem?_map,List.getElem?_eq_getElem h];rfl
  have gB:∀{i k:Nat} (h:i<b.length),k=i->(b.map Zd)[k]?=some (Zd b[i]):=fun h e=>by subst e;rw[List.getElem?_map,List.getElem?_eq_getElem h];rfl
  refine Does.enter Z0 call76 func76 rfl 39 rfl rfl [.tmp 6] rfl ?_;intro w0 F η0 h0;conv=>whnf
  repeat'((first|refine AU ?_|(refine IW ?_ ?_<;>intro h<;>try(exfalso;omega)))<;>conv=>whnf)
  refine LOOP.gok Z0 [0,1,2,11,12] [] (X:=Nat) (fun i=>i<=a.length/\i<=b.length/\Yg a b=Yg (a.drop i) (b.drop i)) (fun i=>[(13, .int .i64 (i:Int))]) (fun i=>[]) 2 (fun i=>a.length-i) 0 ⟨by omega,by omega,rfl⟩ ?_;conv=>whnf
  refine⟨by exact GOES.cA h0,?_⟩;rintro i ⟨hi,hib,he⟩;conv=>whnf
  by_cases hia:i<a.length
  ·repeat'((first|(refine GET.at (gA hia (by omega)) ?_;conv=>whnf)|refine AU ?_|(refine IW ?_ ?_<;>intro h<;>try(exfalso;omega)))<;>conv=>whnf)
   ·refine FIN.valueK h0 rfl (congrArg (SV.int _) ?_);have:i=b.length:=by omega
    subst this;rw[he,List.drop_eq_nil_of_le (Nat.le_refl _),List.drop_eq_getElem_cons hia];rfl
   have hib2:i<b.length:=by omega
   have hd:=Zbz hia hib2;repeat'((first|(refine GET.at (gB hib2 (by omega)) ?_;conv=>whnf)|refine CALL.value (Z19 a[i] b[i]) rfl rfl ?_|refine AU ?_|(refine IW ?_ ?_<;>intro h<;>try(exfalso;omega)))<;>conv=>whnf)
   ·exact FIN.valueK h0 rfl (congrArg (SV.int _) (by rw[he,hd,if_neg ‹_›]))
   ·refine⟨i+1,⟨by omega,by omega,by rw[he,hd,if_pos ‹_›]⟩,by omega,?_⟩;conv=>whnf
    exact GOES.cA h0
  ·have hie:i=a.length:=by omega
   subst hie;repeat'((first|refine AU ?_|(refine IW ?_ ?_<;>intro h<;>try(exfalso;omega)))<;>conv=>whnf)
   ·refine FIN.valueK h0 rfl (congrArg (SV.int _) ?_);have h2:a.length<b.length:=by omega
    rw[he,List.drop_eq_nil_of_le (Nat.le_refl _),List.drop_eq_getElem_cons h2];rfl
   ·refine FIN.valueK h0 rfl (congrArg (SV.int _) ?_);rw[he,List.drop_eq_nil_of_le (Nat.le_refl _),List.drop_eq_nil_of_le (by omega)];rfl
 refine Does.enter Z0 call37 func37 rfl 8 rfl rfl [.tmp 4] rfl ?_;intro w0 F η0 h0;conv=>whnf
 repeat'((first|refine AU ?_|(refine IW ?_ ?_<;>intro h<;>try(exfalso;omega)))<;>conv=>whnf)
 refine CALL.aA [0,1] (hC) ?_;rintro r O nx ⟨rfl,rfl,rfl⟩;conv=>whnf
 repeat'((first|refine AU ?_|(refine IW ?_ ?_<;>intro h<;>try(exfalso;omega)))<;>conv=>whnf)
 exact FIN.valueK h0 rfl rfl
theorem Zf1{C:Cx}{O:Hps}{nx y:Nat}{h g:Hp}(hy:y≠nx)(h1:Yp C O (.loc y)=some g):Yp {C with S:=(.loc nx,h)::C.S} O (.loc y)=some g:=by
 simp only[Yp]at h1⊢;split
 ·rename_i h2;rw[h2]at h1;exact h1
 ·rename_i h2;rw[h2]at h1;have:Nat.beq y nx=false:=by rw[<-Bool.not_eq_true];intro h3;exact hy (Nat.eq_of_beq_eq_true h3)
  simp only[lkpB,WU,this];exact h1
theorem Zao{C:Cx}{O:Hps}{nx:Nat}{h:Hp}(hO:lkp nx O=none):Yp {C with S:=(.loc nx,h)::C.S} O (.loc nx)=some h:=by
 simp only[Yp,hO,lkpB,WU,Nat.beq_refl]
theorem CALL.lent2{M:Mx}{f:FuncId}{O:Hps}{nx es:Nat}{K:SV->Hps->Nat->Prop}{u v:Value}{rs qs:List (List SV)}{en en':Option Ent}{r:SV}(hu:LentIn M.w0 u es rs en)(hv:LentIn M.w0 v es qs en')(hF:∀k, ¬M.F k)(hO:lkp nx O=none)(hO1:lkp (nx+1) O=none)
 (sp:Does M.P M.C.T f 2 [.sl (.loc 0) 0 es rs.length none, .sl (.loc 1) 0 es qs.length none] [] [(0, .rows es rs),(1, .rows es qs)] (ValK 2 r)) (hrs:Zh rs=true) (hqs:Zh qs=true) (hr:plain r=true) (hK:K r O (nx+1+1)):CALL M f [.val u, .val v] O nx K:=by
 refine CALL.lent [] [.val v] hu hF rfl (fun η1=>?_);refine CALL.lent (M:=⟨M.P,{M.C with S:=(.loc nx, .rows es rs)::M.C.S},M.w0,M.F,η1,none⟩) [.sl (.loc nx) 0 es rs.length none] [] hv hF rfl (fun η2=>?_);refine CALL.looks [nx,nx+1] sp rfl (by simp[Nat.blt_eq];omega) rfl rfl ⟨⟨rfl,?_,XJ hrs⟩,⟨rfl,?_,XJ hqs⟩,trivial⟩ (by rw[Xf _ hr];exact hK)
 ·rw[Zw _ (h:= .rows es rs) hrs];exact Zf1 (Nat.ne_of_lt (Nat.lt_succ_self _)) (Zao hO)
 ·rw[Zw _ (h:= .rows es qs) hqs];exact Zao hO1
def Z3X(v:Value):List SV:=[.val v]
instance :PlF Z3X:=⟨fun _=>rfl⟩
theorem or2(a b:Int):orI [a,b]=if a=0 then b else a:=by
 simp only[orI];by_cases h:a=0
 ·subst h;by_cases h2:b=0<;>simp[h2]
 ·simp[h]
theorem Z80(A:List LB)(l:List Qd)(cl:List Int)(vs:List Value)(a b:Nat)(ha:a<cl.length)(hb:b<cl.length)(hvl:vs.length=cl.length)(hl:∀x,(Yc A l cl x).length<=1152921504606846976):
 DoesW (fun w=> ∀x (h:x<vs.length),∃en,LentIn w vs[x] 16 ((Yc A l cl x).map Zd) en) prog tab 103 4 [.int .i64 (a:Int), .int .i64 (b:Int), .ptr (.loc 0) 0 0 0, .ptr (.loc 1) 0 0 0] [] [(0, .box [.sl (.loc 2) 0 1 cl.length none]),(1, .box [.sl (.loc 3) 0 1 cl.length none]),(2, .rows 1 (cl.map Zk)),(3, .rows 1 (vs.map Z3X))] (ValK 4 (.int .i64 (UE A l cl a b))):=by
 have gC:∀{i k:Nat} (h:i<cl.length),k=i->(cl.map Zk)[k]?=some (Zk cl[i]):=fun h e=>by subst e;rw[List.getElem?_map,List.getElem?_eq_getElem h];rfl
 have gV:∀{i k:Nat} (h:i<vs.length),k=i->(vs.map Z3X)[k]?=some (Z3X vs[i]):=fun h e=>by subst e;rw[List.getElem?_map,List.getElem?_eq_getElem h];rfl
 refine Does.enterW Z0 call103 func103 rfl 27 rfl rfl [.tmp 6] rfl ?_;intro w0 F η0 h0 hG hF;conv=>whnf
 have hno:∀k, ¬F k:=fun k h=>by rw[hF]at h;simp[Yk,lkp]at h
 obtain⟨ea,hU⟩:=hG a (by omega);obtain⟨eb,hV⟩:=hG b (by omega);repeat'((first|(refine GET.at (gC ha (by omega)) ?_;conv=>whnf)|(refine GET.at (gC hb (by omega)) ?_;conv=>whnf)|(refine GET.at (gV (i:=a) (by omega) (by omega)) ?_;conv=>whnf)|(refine GET.at (gV (i:=b) (by omega) (by omega)) ?_;conv=>whnf)|(refine ADD.mkH (fun η1 w1 H1=>?_);(have hu1:=hU.now H1.fr hno);(have hv1:=hV.now H1.fr hno);conv=>whnf)|refine CALL.value (Z1R cl[a] cl[b]) rfl rfl ?_|(show DRAWN _ _ _ _ _ _ _;first|refine DRAWN.of (id:=1) Z0 mixed ZdC (by kernel_rfl) ?_)|refine ADD.mk (fun _ _=>?_)|refine AD ?_|refine FORK.mk ?_ ?_|refine AU ?_|(refine IW ?_ ?_<;>intro h<;>try(exfalso;omega)))<;>conv=>whnf)
 have hls:=ZbA (Yc A l cl a) (Yc A l cl b) none none (hl a) (hl b);rw[show(Yc A l cl a).length=((Yc A l cl a).map Zd).length from(List.length_map ..).symm,show(Yc A l cl b).length=((Yc A l cl b).map Zd).length from(List.length_map ..).symm]at hls;refine CALL.lent2 hu1 hv1 (fun k h=>h) rfl rfl hls (Xb _) (Xb _) rfl ?_;conv=>whnf
 repeat'((first|(refine CALL.looks [6] (Z8I [cmpI cl[a] cl[b],Yg (Yc A l cl a) (Yc A l cl b)] (by simp)) rfl rfl rfl rfl ⟨⟨rfl,rfl,rfl⟩,trivial⟩ ?_;conv=>whnf)|(show DRAWN _ _ _ _ _ _ _;first|refine DRAWN.of (id:=1) Z0 mixed ZdC (by kernel_rfl) ?_)|refine ADD.mk (fun _ _=>?_)|refine AD ?_|refine FORK.mk ?_ ?_|refine AU ?_|(refine IW ?_ ?_<;>intro h<;>try(exfalso;omega)))<;>conv=>whnf)
 refine FIN.valueK h0 rfl (congrArg (SV.int _) ?_);unfold UE;rw[or2,List.getD_eq_getElem?_getD,List.getD_eq_getElem?_getD,List.getElem?_eq_getElem ha,List.getElem?_eq_getElem hb];rfl
end Go.Proofs.YtlcbipfmodcedaaGreatDoor
namespace Go.Proofs.YtlcbipfmodcedaaGreatDoor
open Go.Sx Go.Our
open Tryz
def W4:Plan:=(Zu [(0,1),(1,1),(2,1),(4,1),(5,1),(6,1),(3,2),(7,2),(8,3),(9,1)])
def vqV(A:List LB)(cl:List Int)(x:Nat)(q:Qd)(j:Nat):Qd:=⟨if 0<j then Xh A cl x q.s else q.s,if 1<j then Xh A cl x q.p else q.p,if 2<j then Xh A cl x q.o else q.o,if 3<j then Xh A cl x q.g else q.g⟩
theorem ZgO(A:List LB)(cl:List Int)(x:Nat)(q:Qd):vqV A cl x q 0=q:=rfl
theorem ZgP(A:List LB)(cl:List Int)(x:Nat)(q:Qd):vqV A cl x q 4=Z5N A cl x q:=rfl
def cBx(n:Nat)(lim:Option Nat)(nl:Nat):Hp:= .box [.sl (.loc 1) 0 16 n lim, .sl (.loc 5) 0 1 nl (some nl), .mp (.loc 2), .sl (.loc 3) 0 1 nl none]
theorem Zf2{A:List LB}{l:List Qd}{x k:Nat}(h:k∈atV A l x):k<l.length:=List.mem_range.1 (List.mem_filter.1 h).1
theorem Z1o{A:List LB}{cl:List Int}{x:Nat}{t:Tm}(h:¬t.k=2):Xh A cl x t=t:=if_neg h
theorem Z3Y{A:List LB}{cl:List Int}{x:Nat}{t:Tm}(h:t.k=2)(hx:A.idxOf t.t=x):Xh A cl x t=⟨t.k,[120],t.y,t.l⟩:=by unfold Xh;rw[if_pos h,if_pos hx]
theorem Z3Z{A:List LB}{cl:List Int}{x:Nat}{t:Tm}(h:t.k=2)(hx:¬A.idxOf t.t=x):Xh A cl x t=⟨t.k,dig4 (cl.getD (A.idxOf t.t) 0).toNat,t.y,t.l⟩:=by unfold Xh;rw[if_pos h,if_neg hx]
theorem ZdD{I:List (List Nat)}{i k n:Nat}{sv:SV}(h:i<I.length)(hk:k=i)(hn:n=I[i].length):setC ((inK I).modify k fun row=>row.set 0 (DC.v sv)) i 0 (.kid 1 ((I[i].map ZT).take n))=inK I:=by
 subst hk;exact Z0P h rfl hn
theorem ZdE(A:List LB)(l z:List Qd)(lim:Option Nat)(cl:List Int)(x:Nat)(hx:x<A.length)(hcn:cl.length=A.length)(hA4:A.length<=4096)(hl:l.length<=1048576)(hnd:A.Nodup)(hmem:∀s∈ZR l,s∈A)(hcl:∀c∈cl,0<=c/\c<10000)(hz:(l++z).length<=1152921504606846976):
 Does prog tab 102 6 [.ptr (.loc 0) 0 0 0, .int .i64 (x:Int), .sl (.loc 4) 0 1 A.length none] [(3, .deep false 1 (inK (insV A l)))] [(0,cBx l.length lim A.length),(1, .rows 16 ((l++z).map Zd)),(2, .mp (numT (Xs 0 A A.length))),(4, .rows 1 (cl.map Zk))]
 (fun r O nx=>r= .sl (.loc 6) 0 16 (Yc A l cl x).length none/\O=[(3, .deep false 1 (inK (insV A l))),(6, .rows 16 ((Yc A l cl x).map Zd))]/\nx=7):=by
 have hIl:(insV A l).length=A.length:=by simp[insV]
 have hxI:x< (insV A l).length:=by omega
 have hIx:(insV A l)[x]=atV A l x:=by simp[insV]
 have hfA:=Zag (b:=0) hnd;have hLl:(atV A l x).length<=1048576:=by rw[<-Z9c];exact Nat.le_trans (Z6b ..) hl
 have hLk:∀k∈atV A l x,k<l.length:=fun k hk=>Zf2 hk;obtain⟨V,hV⟩:∃V,V=Z1Q A l cl x:=⟨_,rfl⟩;have hVl:V.length=(atV A l x).length:=by rw[hV];unfold Z1Q;rw[List.length_map]
 refine Does.enter Z0 call102 func102 rfl 74 rfl rfl [.tmp 6] rfl ?_;intro w0 F η0 h0;conv=>whnf
 repeat'((first|(refine FINDD.at (ZgN hxI (by omega)) ?_;conv=>whnf)|refine AU ?_|(refine IW ?_ ?_<;>intro h<;>try(exfalso;omega)))<;>conv=>whnf)
 rw[show(List.map ZT (insV A l)[x]).length=(atV A l x).length by rw[List.length_map,hIx]];obtain⟨L,hL⟩:∃L,L=atV A l x:=⟨_,rfl⟩;have hrows:(insV A l)[x].map ZT=L.map ZT:=by rw[hIx,hL]
 rw[hrows];rw[<-hL]at hLl hLk hVl⊢
 have hVi:∀i (h:i<L.length),V[i]'(by omega)=Z5N A cl x (l[L[i]]'(hLk _ (List.getElem_mem h))):=fun i h=>by
  subst hV hL;unfold Z1Q;rw[List.getElem_map,List.getD_eq_getElem?_getD,List.getElem?_eq_getElem (Zf2 (List.getElem_mem h))];rfl
 refine LOOP.nil 7 16 rfl ?_;refine LOOP.gok Z0 [0,1,2,20,21] [3,6] (X:=Nat) (fun i=>i<=L.length) (fun i=>[(22, .int .i64 (i:Int)),(7, .sl (.loc 7) 0 16 i none)]) (fun i=>[(7, .rows 16 ((V.take i).map Zd))]) 8 (fun i=>L.length-i) 0 (by omega) ?_;conv=>whnf
 refine⟨by exact GOES.cA h0,?_⟩;intro i hi;have hti:(V.take i).length=i:=by rw[List.length_take];omega
 conv=>whnf
 by_cases hil:i<L.length
 ·have hk:=hLk _ (List.getElem_mem hil);obtain⟨q,hq⟩:∃q,q=l[L[i]]:=⟨_,rfl⟩;have hVq:=hVi i hil;rw[<-hq]at hVq;have hqA:∀s∈Zv q,s∈A:=fun s hs=>hmem s (List.mem_flatMap.2 ⟨q,by rw[hq];exact List.getElem_mem hk,hs⟩);have gL:∀{m:Nat},m=i->(L.map ZT)[m]?=some (ZT L[i]):=fun e=>by subst e;rw[List.getElem?_map,List.getElem?_eq_getElem hil];rfl
  have gQ:∀{m:Nat},m=L[i]->((l++z).map Zd)[m]?=some (Zd q):=fun e=>by subst e;rw[hq,List.getElem?_map,List.getElem?_append_left hk,List.getElem?_eq_getElem hk];rfl
  have hT:=Z5c q;have hto:(V.take (i+1))=V.take i++ [Z5N A cl x q]:=by rw[List.take_succ_eq_append_getElem (by omega),hVq]
  generalize V.take i=W at hti hto⊢;clear hVi hIx hV;repeat'((first|(refine GET.at (gL (by omega)) ?_;conv=>whnf)|(refine GET.at (gQ (by omega)) ?_;conv=>whnf)|refine AU ?_|(refine IW ?_ ?_<;>intro h<;>try(exfalso;omega)))<;>conv=>whnf)
  refine CALL.aA [8] (hT) ?_;rintro r O nx ⟨rfl,rfl,rfl⟩;conv=>whnf
  repeat'((first|refine AU ?_|(refine IW ?_ ?_<;>intro h<;>try(exfalso;omega)))<;>conv=>whnf)
  refine LOOP.gok Z0 [0,1,2,7,10,20,21,22,33] [3,6,7] (X:=Nat) (fun j=>j<=4) (fun j=>[(34, .int .i64 (j:Int))]) (fun j=>[(8, .box (Zd (vqV A cl x q j)))]) 9 (fun j=>4-j) 0 (by omega) ?_;conv=>whnf
  refine⟨by rw[ZgO];exact GOES.cA h0,?_⟩;intro j hj;conv=>whnf
  by_cases hj4:j<4
  ·have hjc:j=0\/j=1\/j=2\/j=3:=by omega
   rcases hjc with rfl|rfl|rfl|rfl
   ·rw[show vqV A cl x q 0=⟨q.s,q.p,q.o,q.g⟩from rfl];repeat'((first|(refine NEED.mk ⟨by omega,by omega,rfl⟩ ?_;conv=>whnf)|(refine GET.at (row:=[.ptr (.loc 8) 0 0 0]) rfl ?_;conv=>whnf)|(show DRAWN _ _ _ _ _ _ _;first|refine DRAWN.of (id:=10) Z0 mixed W4 (by kernel_rfl) ?_)|refine ADD.mk (fun _ _=>?_)|refine AD ?_|refine FORK.mk ?_ ?_|refine AU ?_|(refine IW ?_ ?_<;>intro h<;>try(exfalso;omega)))<;>conv=>whnf)
    ·refine⟨0+1,by omega,by omega,?_⟩;rw[show vqV A cl x q (0+1)=vqV A cl x q 0 by unfold vqV;simp[Z1o ‹¬(q.s).k=2›]];conv=>whnf
     exact GOES.cA h0
    have h2:(q.s).k=2:=h;have hsA:(q.s).t∈A:=hqA _ (by unfold Zv Zx;simp[h2]);have hn0A:=List.idxOf_lt_length_of_mem hsA;have hAn:A[A.idxOf (q.s).t]=(q.s).t:=List.getElem_idxOf hn0A;have hix:ixF 0 A (q.s).t=((A.idxOf (q.s).t:Nat):Int):=by unfold ixF;rw[if_pos hsA];omega
    refine NEED.mk ⟨KT.ok _,Xq KT intV _⟩ ?_;refine FIND.A KT intV (q.s).t (Xs 0 A A.length) (fun i v hf=>?_) (fun hf=>?_)
    rotate_left
    ·have hg:=JJ (b:=0) hnd A.length (q.s).t (Nat.le_refl _);rw[XD hf,dif_pos hn0A]at hg;cases hg
    have hv:=VM hf;rw[hfA,hix]at hv;subst hv;obtain⟨n0,hn0⟩:∃n0,n0=A.idxOf (q.s).t:=⟨_,rfl⟩;rw[<-hn0]at hn0A⊢
    have gC:∀{m:Nat},m=n0->(cl.map Zk)[m]?=some (Zk ((cl[n0]'(by omega)).toNat:Int)):=fun{m} e=>by
     rw[e,List.getElem?_map,List.getElem?_eq_getElem (by omega)];have:=(hcl _ (List.getElem_mem (show n0<cl.length by omega))).1;rw[Int.toNat_of_nonneg this];rfl
    have hcb:=hcl _ (List.getElem_mem (show n0<cl.length by omega));have hdg:=Ut (cl[n0]'(by omega)).toNat (by omega);clear hqA gL gQ hf;conv=>whnf
    repeat'((first|(refine GET.at (gC (by omega)) ?_;conv=>whnf)|refine CALL.value (hdg) rfl rfl ?_|(show DRAWN _ _ _ _ _ _ _;first|refine DRAWN.of (id:=10) Z0 mixed W4 (by kernel_rfl) ?_)|refine ADD.mk (fun _ _=>?_)|refine AD ?_|refine FORK.mk ?_ ?_|refine AU ?_|(refine IW ?_ ?_<;>intro h<;>try(exfalso;omega)))<;>conv=>whnf)
    ·refine⟨0+1,by omega,by omega,?_⟩;rw[show vqV A cl x q (0+1)=⟨⟨q.s.k,[120],q.s.y,q.s.l⟩,q.p,q.o,q.g⟩by unfold vqV;simp[Z3Y h2 (show A.idxOf (q.s).t=x by omega)]];conv=>whnf
     exact GOES.cA h0
    ·refine⟨0+1,by omega,by omega,?_⟩;have hne:¬A.idxOf (q.s).t=x:=by omega
     rw[show vqV A cl x q (0+1)=⟨⟨q.s.k,dig4 (cl[n0]'(by omega)).toNat,q.s.y,q.s.l⟩,q.p,q.o,q.g⟩by unfold vqV;simp[Z3Z h2 hne,<-hn0,List.getD_eq_getElem?_getD,List.getElem?_eq_getElem (show n0<cl.length by omega)]];conv=>whnf
     exact GOES.cA h0
   ·rw[show vqV A cl x q 1=⟨Xh A cl x q.s,q.p,q.o,q.g⟩from rfl];repeat'((first|(refine NEED.mk ⟨by omega,by omega,rfl⟩ ?_;conv=>whnf)|(refine GET.at (row:=[.ptr (.loc 8) 0 0 4]) rfl ?_;conv=>whnf)|(show DRAWN _ _ _ _ _ _ _;first|refine DRAWN.of (id:=10) Z0 mixed W4 (by kernel_rfl) ?_)|refine ADD.mk (fun _ _=>?_)|refine AD ?_|refine FORK.mk ?_ ?_|refine AU ?_|(refine IW ?_ ?_<;>intro h<;>try(exfalso;omega)))<;>conv=>whnf)
    ·refine⟨1+1,by omega,by omega,?_⟩;rw[show vqV A cl x q (1+1)=vqV A cl x q 1 by unfold vqV;simp[Z1o ‹¬(q.p).k=2›]];conv=>whnf
     exact GOES.cA h0
    have h2:(q.p).k=2:=h;have hsA:(q.p).t∈A:=hqA _ (by unfold Zv Zx;simp[h2]);have hn0A:=List.idxOf_lt_length_of_mem hsA;have hAn:A[A.idxOf (q.p).t]=(q.p).t:=List.getElem_idxOf hn0A;have hix:ixF 0 A (q.p).t=((A.idxOf (q.p).t:Nat):Int):=by unfold ixF;rw[if_pos hsA];omega
    refine NEED.mk ⟨KT.ok _,Xq KT intV _⟩ ?_;refine FIND.A KT intV (q.p).t (Xs 0 A A.length) (fun i v hf=>?_) (fun hf=>?_)
    rotate_left
    ·have hg:=JJ (b:=0) hnd A.length (q.p).t (Nat.le_refl _);rw[XD hf,dif_pos hn0A]at hg;cases hg
    have hv:=VM hf;rw[hfA,hix]at hv;subst hv;obtain⟨n0,hn0⟩:∃n0,n0=A.idxOf (q.p).t:=⟨_,rfl⟩;rw[<-hn0]at hn0A⊢
    have gC:∀{m:Nat},m=n0->(cl.map Zk)[m]?=some (Zk ((cl[n0]'(by omega)).toNat:Int)):=fun{m} e=>by
     rw[e,List.getElem?_map,List.getElem?_eq_getElem (by omega)];have:=(hcl _ (List.getElem_mem (show n0<cl.length by omega))).1;rw[Int.toNat_of_nonneg this];rfl
    have hcb:=hcl _ (List.getElem_mem (show n0<cl.length by omega));have hdg:=Ut (cl[n0]'(by omega)).toNat (by omega);clear hqA gL gQ hf;conv=>whnf
    repeat'((first|(refine GET.at (gC (by omega)) ?_;conv=>whnf)|refine CALL.value (hdg) rfl rfl ?_|(show DRAWN _ _ _ _ _ _ _;first|refine DRAWN.of (id:=10) Z0 mixed W4 (by kernel_rfl) ?_)|refine ADD.mk (fun _ _=>?_)|refine AD ?_|refine FORK.mk ?_ ?_|refine AU ?_|(refine IW ?_ ?_<;>intro h<;>try(exfalso;omega)))<;>conv=>whnf)
    ·refine⟨1+1,by omega,by omega,?_⟩;rw[show vqV A cl x q (1+1)=⟨Xh A cl x q.s,⟨q.p.k,[120],q.p.y,q.p.l⟩,q.o,q.g⟩by unfold vqV;simp[Z3Y h2 (show A.idxOf (q.p).t=x by omega)]];conv=>whnf
     exact GOES.cA h0
    ·refine⟨1+1,by omega,by omega,?_⟩;have hne:¬A.idxOf (q.p).t=x:=by omega
     rw[show vqV A cl x q (1+1)=⟨Xh A cl x q.s,⟨q.p.k,dig4 (cl[n0]'(by omega)).toNat,q.p.y,q.p.l⟩,q.o,q.g⟩by unfold vqV;simp[Z3Z h2 hne,<-hn0,List.getD_eq_getElem?_getD,List.getElem?_eq_getElem (show n0<cl.length by omega)]];conv=>whnf
     exact GOES.cA h0
   ·rw[show vqV A cl x q 2=⟨Xh A cl x q.s,Xh A cl x q.p,q.o,q.g⟩from rfl];repeat'((first|(refine NEED.mk ⟨by omega,by omega,rfl⟩ ?_;conv=>whnf)|(refine GET.at (row:=[.ptr (.loc 8) 0 0 8]) rfl ?_;conv=>whnf)|(show DRAWN _ _ _ _ _ _ _;first|refine DRAWN.of (id:=10) Z0 mixed W4 (by kernel_rfl) ?_)|refine ADD.mk (fun _ _=>?_)|refine AD ?_|refine FORK.mk ?_ ?_|refine AU ?_|(refine IW ?_ ?_<;>intro h<;>try(exfalso;omega)))<;>conv=>whnf)
    ·refine⟨2+1,by omega,by omega,?_⟩;rw[show vqV A cl x q (2+1)=vqV A cl x q 2 by unfold vqV;simp[Z1o ‹¬(q.o).k=2›]];conv=>whnf
     exact GOES.cA h0
    have h2:(q.o).k=2:=h;have hsA:(q.o).t∈A:=hqA _ (by unfold Zv Zx;simp[h2]);have hn0A:=List.idxOf_lt_length_of_mem hsA;have hAn:A[A.idxOf (q.o).t]=(q.o).t:=List.getElem_idxOf hn0A;have hix:ixF 0 A (q.o).t=((A.idxOf (q.o).t:Nat):Int):=by unfold ixF;rw[if_pos hsA];omega
    refine NEED.mk ⟨KT.ok _,Xq KT intV _⟩ ?_;refine FIND.A KT intV (q.o).t (Xs 0 A A.length) (fun i v hf=>?_) (fun hf=>?_)
    rotate_left
    ·have hg:=JJ (b:=0) hnd A.length (q.o).t (Nat.le_refl _);rw[XD hf,dif_pos hn0A]at hg;cases hg
    have hv:=VM hf;rw[hfA,hix]at hv;subst hv;obtain⟨n0,hn0⟩:∃n0,n0=A.idxOf (q.o).t:=⟨_,rfl⟩;rw[<-hn0]at hn0A⊢
    have gC:∀{m:Nat},m=n0->(cl.map Zk)[m]?=some (Zk ((cl[n0]'(by omega)).toNat:Int)):=fun{m} e=>by
     rw[e,List.getElem?_map,List.getElem?_eq_getElem (by omega)];have:=(hcl _ (List.getElem_mem (show n0<cl.length by omega))).1;rw[Int.toNat_of_nonneg this];rfl
    have hcb:=hcl _ (List.getElem_mem (show n0<cl.length by omega));have hdg:=Ut (cl[n0]'(by omega)).toNat (by omega);clear hqA gL gQ hf;conv=>whnf
    repeat'((first|(refine GET.at (gC (by omega)) ?_;conv=>whnf)|refine CALL.value (hdg) rfl rfl ?_|(show DRAWN _ _ _ _ _ _ _;first|refine DRAWN.of (id:=10) Z0 mixed W4 (by kernel_rfl) ?_)|refine ADD.mk (fun _ _=>?_)|refine AD ?_|refine FORK.mk ?_ ?_|refine AU ?_|(refine IW ?_ ?_<;>intro h<;>try(exfalso;omega)))<;>conv=>whnf)
    ·refine⟨2+1,by omega,by omega,?_⟩;rw[show vqV A cl x q (2+1)=⟨Xh A cl x q.s,Xh A cl x q.p,⟨q.o.k,[120],q.o.y,q.o.l⟩,q.g⟩by unfold vqV;simp[Z3Y h2 (show A.idxOf (q.o).t=x by omega)]];conv=>whnf
     exact GOES.cA h0
    ·refine⟨2+1,by omega,by omega,?_⟩;have hne:¬A.idxOf (q.o).t=x:=by omega
     rw[show vqV A cl x q (2+1)=⟨Xh A cl x q.s,Xh A cl x q.p,⟨q.o.k,dig4 (cl[n0]'(by omega)).toNat,q.o.y,q.o.l⟩,q.g⟩by unfold vqV;simp[Z3Z h2 hne,<-hn0,List.getD_eq_getElem?_getD,List.getElem?_eq_getElem (show n0<cl.length by omega)]];conv=>whnf
     exact GOES.cA h0
   ·rw[show vqV A cl x q 3=⟨Xh A cl x q.s,Xh A cl x q.p,Xh A cl x q.o,q.g⟩from rfl];repeat'((first|(refine NEED.mk ⟨by omega,by omega,rfl⟩ ?_;conv=>whnf)|(refine GET.at (row:=[.ptr (.loc 8) 0 0 12]) rfl ?_;conv=>whnf)|(show DRAWN _ _ _ _ _ _ _;first|refine DRAWN.of (id:=10) Z0 mixed W4 (by kernel_rfl) ?_)|refine ADD.mk (fun _ _=>?_)|refine AD ?_|refine FORK.mk ?_ ?_|refine AU ?_|(refine IW ?_ ?_<;>intro h<;>try(exfalso;omega)))<;>conv=>whnf)
    ·refine⟨3+1,by omega,by omega,?_⟩;rw[show vqV A cl x q (3+1)=vqV A cl x q 3 by unfold vqV;simp[Z1o ‹¬(q.g).k=2›]];conv=>whnf
     exact GOES.cA h0
    have h2:(q.g).k=2:=h;have hsA:(q.g).t∈A:=hqA _ (by unfold Zv Zx;simp[h2]);have hn0A:=List.idxOf_lt_length_of_mem hsA;have hAn:A[A.idxOf (q.g).t]=(q.g).t:=List.getElem_idxOf hn0A;have hix:ixF 0 A (q.g).t=((A.idxOf (q.g).t:Nat):Int):=by unfold ixF;rw[if_pos hsA];omega
    refine NEED.mk ⟨KT.ok _,Xq KT intV _⟩ ?_;refine FIND.A KT intV (q.g).t (Xs 0 A A.length) (fun i v hf=>?_) (fun hf=>?_)
    rotate_left
    ·have hg:=JJ (b:=0) hnd A.length (q.g).t (Nat.le_refl _);rw[XD hf,dif_pos hn0A]at hg;cases hg
    have hv:=VM hf;rw[hfA,hix]at hv;subst hv;obtain⟨n0,hn0⟩:∃n0,n0=A.idxOf (q.g).t:=⟨_,rfl⟩;rw[<-hn0]at hn0A⊢
    have gC:∀{m:Nat},m=n0->(cl.map Zk)[m]?=some (Zk ((cl[n0]'(by omega)).toNat:Int)):=fun{m} e=>by
     rw[e,List.getElem?_map,List.getElem?_eq_getElem (by omega)];have:=(hcl _ (List.getElem_mem (show n0<cl.length by omega))).1;rw[Int.toNat_of_nonneg this];rfl
    have hcb:=hcl _ (List.getElem_mem (show n0<cl.length by omega));have hdg:=Ut (cl[n0]'(by omega)).toNat (by omega);clear hqA gL gQ hf;conv=>whnf
    repeat'((first|(refine GET.at (gC (by omega)) ?_;conv=>whnf)|refine CALL.value (hdg) rfl rfl ?_|(show DRAWN _ _ _ _ _ _ _;first|refine DRAWN.of (id:=10) Z0 mixed W4 (by kernel_rfl) ?_)|refine ADD.mk (fun _ _=>?_)|refine AD ?_|refine FORK.mk ?_ ?_|refine AU ?_|(refine IW ?_ ?_<;>intro h<;>try(exfalso;omega)))<;>conv=>whnf)
    ·refine⟨3+1,by omega,by omega,?_⟩;rw[show vqV A cl x q (3+1)=⟨Xh A cl x q.s,Xh A cl x q.p,Xh A cl x q.o,⟨q.g.k,[120],q.g.y,q.g.l⟩⟩by unfold vqV;simp[Z3Y h2 (show A.idxOf (q.g).t=x by omega)]];conv=>whnf
     exact GOES.cA h0
    ·refine⟨3+1,by omega,by omega,?_⟩;have hne:¬A.idxOf (q.g).t=x:=by omega
     rw[show vqV A cl x q (3+1)=⟨Xh A cl x q.s,Xh A cl x q.p,Xh A cl x q.o,⟨q.g.k,dig4 (cl[n0]'(by omega)).toNat,q.g.y,q.g.l⟩⟩by unfold vqV;simp[Z3Z h2 hne,<-hn0,List.getD_eq_getElem?_getD,List.getElem?_eq_getElem (show n0<cl.length by omega)]];conv=>whnf
     exact GOES.cA h0
  ·have hj4:j=4:=by omega
   subst hj4;rw[ZgP];repeat'((first|(refine NEED.mk (Zj 224 rfl rfl (by simp) (by simp;omega) (by omega)) ?_;conv=>whnf)|refine AU ?_|(refine IW ?_ ?_<;>intro h<;>try(exfalso;omega)))<;>conv=>whnf)
   all_goals
    rw[Zi7 W (Z5N A cl x q) hti.symm,<-hto];refine⟨i+1,by omega,by omega,?_⟩;conv=>whnf
    exact GOES.kA h0 [6,10]
 ·have hie:i=L.length:=by omega
  subst hie;rw[List.take_of_length_le (by omega)];have hsQ:=Zb4 V (by omega);rw[hVl]at hsQ;repeat'((first|refine AU ?_|(refine IW ?_ ?_<;>intro h<;>try(exfalso;omega)))<;>conv=>whnf)
  refine CALL.aA [7] (hsQ) ?_;rintro r O nx ⟨rfl,rfl,rfl⟩;conv=>whnf
  repeat'((first|refine AU ?_|(refine IW ?_ ?_<;>intro h<;>try(exfalso;omega)))<;>conv=>whnf)
  have hsg:Yc A l cl x=V.mergeSort (leC Xd):=by unfold Yc;rw[hV]
  have hsl:(Yc A l cl x).length=L.length:=by rw[hsg,List.length_mergeSort,hVl]
  rw[<-hsg,<-hrows];refine GHO.fin (GHO.putk 3 x 0 6 rfl (Z0c hxI (by omega)) rfl rfl (by rw[List.length_map,hIx];rw[hL];exact Nat.le_refl _) (by decide)) ?_;rw[ZdD hxI (by omega) (by rw[hIx];exact congrArg List.length hL)];rw[<-hsl];exact FIN.aA h0 [7] (.sl (.loc 6) 0 16 (Yc A l cl x).length none) [(3, .deep false 1 (inK (insV A l))),(6, .rows 16 ((Yc A l cl x).map Zd))] ⟨rfl,rfl,rfl⟩
end Go.Proofs.YtlcbipfmodcedaaGreatDoor
namespace Go.Proofs.YtlcbipfmodcedaaGreatDoor
open Go.Sx Go.Our Go.Shelf
open Tryz
def gRow(s:List Qd):List DC:=[.kid 16 (s.map Zd)]
def sgD(sg:List (List Qd)):List (List DC):=sg.map gRow
theorem Zaq:∀sg:List (List Qd),Zt (sgD sg)=true
 | []=>rfl
 |s::sg=>by simp only[sgD,List.map_cons,gRow,Zt,Ys,JL,Xb,Bool.and_self,Bool.true_and];exact Zaq sg
instance {sg:List (List Qd)}:PlD (sgD sg):=⟨Zaq sg⟩
theorem ZdJ{sg:List (List Qd)}{i:Nat}(h:i<sg.length):(sgD sg)[i]?=some (gRow sg[i]):=by unfold sgD;rw[List.getElem?_map,List.getElem?_eq_getElem h];rfl
theorem ZgT(sg:List (List Qd)):(sgD sg).length=sg.length:=by simp[sgD]
theorem ZgU{sg:List (List Qd)}{i k:Nat}(h:i<sg.length)(hk:k=i):Z0T (sgD sg) k 0=some (k, .kid 16 (sg[i].map Zd)):=by
 subst hk;unfold Z0T;rw[ZdJ h];rfl
theorem ZbD(n:Nat):Z0I (List.replicate n [SV.val (.slice none 0 0)]) (sgD (List.replicate n [])):=by
 refine⟨by simp[sgD],fun a row' h=>?_⟩;unfold sgD at h;rw[List.map_replicate]at h;obtain⟨ha,hr⟩:=List.getElem?_eq_some_iff.1 h;rw[List.length_replicate]at ha;rw[List.getElem_replicate]at hr;subst hr;refine⟨_,by rw[List.getElem?_replicate,if_pos ha],?_⟩;exact And.intro (.inr ⟨rfl,16,rfl⟩) trivial
theorem ZgV{sg:List (List Qd)}{x k:Nat}{s:List Qd}{rows:List (List SV)}{n:Nat}(hk:k=x)(hr:rows.take n=s.map Zd):setC (sgD sg) k 0 (.kid 16 (rows.take n))=sgD (sg.set x s):=by
 subst hk;exact Zf0 (es:=16) (f:=Zd) rfl hr
theorem Zic{η:Env}{w:World}{i:Nat}{sg:List (List Qd)}{R:List (List SV)}(h:RawIs η w i 1 (sgD sg) R):∃vs:List Value,vs.length=sg.length/\R=vs.map Z3X/\∀x (hx:x<vs.length) (hs:x<sg.length),∃en,LentIn w vs[x] 16 (sg[x].map Zd) en:=by
 have hl:=h.len;rw[ZgT]at hl
 have key:∀x (hx:x<sg.length),∃v,R[x]?=some [.val v]/\∃en,LentIn w v 16 (sg[x].map Zd) en:=fun x hx=>by
  obtain⟨rw1,v,h1,h2,h3⟩:=h.ck x 0 (gRow sg[x]) 16 (sg[x].map Zd) (ZdJ hx) rfl;have h4:=h.lens x _ _ (ZdJ hx) h1;obtain⟨en,h5⟩:=Zal h3 (Xb _);refine⟨v,?_,en,h5⟩;rw[h1]
  match rw1,h2,h4 with
  | [c],h2,_=>
    simp only[List.getElem?_cons_zero,Option.some.injEq]at h2;rw[h2]
 let vf:Nat->Value:=fun x=>match R[x]? with|some (.val v::_)=>v|_=>undef
 refine⟨(List.range sg.length).map vf,by simp,?_,fun x hx hs=>?_⟩
 ·apply List.ext_getElem?;intro x;by_cases hx:x<sg.length
  ·obtain⟨v,h1,_⟩:=key x hx;rw[h1,List.getElem?_map,List.getElem?_map,List.getElem?_range hx];simp only[Option.map_some,Z3X,vf,h1]
  ·rw[List.getElem?_eq_none (by omega),List.getElem?_eq_none (by simp;omega)]
 ·obtain⟨v,h1,en,h2⟩:=key x hs;refine⟨en,?_⟩;simp only[List.getElem_map,List.getElem_range,vf,h1];exact h2
theorem Z6n{M:Mx}{O:Hps}{η:Env}{w:World}{i es j:Nat}{R:List (List SV)}(h:j≠i):Yp (Z4u M O η w i es R).C [] (.loc j)=Yp M.C O (.loc j):=by
 have hb:Nat.beq j i=false:=by rw[<-Bool.not_eq_true];intro h3;exact h (Nat.eq_of_beq_eq_true h3)
 have e:Yp (Z4u M O η w i es R).C [] (.loc j)=lkpB (.loc j) (Wg O++M.C.S):=by
  simp only[Yp,lkp,Z4u,lkpB,WU,hb];rfl
 exact e.trans Z06
theorem ZdK{M:Mx}{O:Hps}{η:Env}{w:World}{i es:Nat}{R:List (List SV)}:Yp (Z4u M O η w i es R).C [] (.loc i)=some (.rows es R):=by
 simp only[Yp,lkp,Z4u,lkpB,WU,Nat.beq_refl]
def Z0R(A:List LB)(l:List Qd)(cl:List Int):List (List Qd):=(List.range cl.length).map (Yc A l cl)
theorem Z5g{C:Cx}{w0:World}{F:Nat->Prop}{η0:Env}{px:Option (Fr×(SV->Hps->Nat->Prop))}{O:Hps}{nx:Nat}(A:List LB)(l:List Qd)(cl:List Int)(hT:C.T=tab)(h6:Yp C O (.loc 6)=some (.box [.sl (.loc 4) 0 1 cl.length none]))(h8:Yp C O (.loc 8)=some (.box [.sl (.loc 7) 0 1 cl.length none]))
 (h4:Yp C O (.loc 4)=some (.rows 1 (cl.map Zk))) (h7:lkp 7 O=some (.deep false 1 (sgD (Z0R A l cl)))) (hnx:8<nx) (hl:∀x,(Yc A l cl x).length<=1152921504606846976) (a b:Nat) (ha:a<cl.length) (hb:b<cl.length):
 QCALL ⟨prog,C,w0,F,η0,px⟩ 103 [.int .i64 (a:Int), .int .i64 (b:Int), .ptr (.loc 6) 0 0 0, .ptr (.loc 8) 0 0 0] O nx (.int .i64 (UE A l cl a b)):=by
 refine QCALL.raw h7 rfl fun η w R H hR=>?_;obtain⟨vs,hvl,rfl,hLn⟩:=Zic hR;have hsl:(Z0R A l cl).length=cl.length:=by simp[Z0R]
 rw[hsl]at hvl;have hsx:∀x (h:x< (Z0R A l cl).length),(Z0R A l cl)[x]=Yc A l cl x:=fun x h=>by simp[Z0R]
 refine CALL.ofW (G:=fun w=> ∀x (h:x<vs.length),∃en,LentIn w vs[x] 16 ((Yc A l cl x).map Zd) en) [6,8,4,7] (hT▸Z80 A l cl vs a b ha hb hvl hl) (fun η' w' H' x h=>?_) rfl (fun i hi=>?_) rfl rfl (fun p hp=>by cases hp) (fun j hj=>by cases hj) (fun p hp=>?_) ?_
 ·obtain⟨en,he⟩:=hLn x h (by omega);rw[hsx]at he;exact⟨en,he.now H'.fr (fun k h=>h)⟩
 ·simp only[List.mem_cons,List.not_mem_nil,or_false]at hi;omega
 ·simp only[List.mem_cons,List.not_mem_nil,or_false]at hp;rcases hp with rfl|rfl|rfl|rfl
  ·exact⟨by show 0<4;omega,(Z6n (show(6:Nat)≠7 by omega)).trans h6,rfl,fun h=>by cases h⟩
  ·exact⟨by show 1<4;omega,(Z6n (show(8:Nat)≠7 by omega)).trans h8,rfl,fun h=>by cases h⟩
  ·refine⟨by show 2<4;omega,?_,XJ (VL _),fun h=>by cases h⟩;rw[Zw _ (h:= .rows 1 (cl.map Zk)) (VL _)];exact(Z6n (show(4:Nat)≠7 by omega)).trans h4
  ·refine⟨by show 3<4;omega,?_,XJ (Zz _ (fun _=>rfl) _),fun h=>by cases h⟩;rw[Zw _ (h:= .rows 1 (vs.map Z3X)) (Zz _ (fun _=>rfl) _)];exact ZdK
 ·rintro r O' nx' ⟨rfl,rfl,rfl⟩
  rfl
end Go.Proofs.YtlcbipfmodcedaaGreatDoor
