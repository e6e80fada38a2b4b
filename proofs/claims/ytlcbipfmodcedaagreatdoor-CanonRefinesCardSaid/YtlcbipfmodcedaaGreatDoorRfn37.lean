/- Part 37: RCan6, RCan7, RCan8, RCan9. Conditions: as each part says. -/
import Derived.Test.YtlcbipfmodcedaaGreatDoorRfn35
import Derived.Test.YtlcbipfmodcedaaGreatDoorRfn36
set_option linter.unusedVariables false
set_option linter.unusedSimpArgs false
set_option maxRecDepth 20000
set_option maxHeartbeats 8000000
namespace Go.Proofs.YtlcbipfmodcedaaGreatDoor
open Go.Sx Go.Our Go.Lib
open Tryz
def valE(l:List Qd):Int:=if(Yb l).2=0/\4096< (Y1 l).length then 2 else(Yb l).2
theorem Z6h(l z:List Qd)(lim:Option Nat)(hl:UF l)(ql:Z95 l)(hz:(l++z).length<=1152921504606846976):
 Does prog tab 32 1 [.sl (.loc 0) 0 16 l.length lim] [] [(0, .rows 16 ((l++z).map Zd))] (ValK 1 (.int .i64 (valE l))):=by
 have hv:=Z7P l z lim (by unfold UF at hl;omega) ql;have hbl:=W5 l z lim hl hz;refine Does.enter Z0 call32 func32 rfl 19 rfl rfl [.tmp 2] rfl ?_;intro w0 F η0 h0;conv=>whnf
 repeat'((first|refine AU ?_|(refine IW ?_ ?_<;>intro h<;>try(exfalso;omega)))<;>conv=>whnf)
 refine CALL.aA [0] (hv) ?_;rintro r O nx ⟨rfl,rfl,rfl⟩;conv=>whnf
 by_cases hv0:(Yb l).2=0
 ·repeat'((first|refine ADD.mk (fun _ _=>?_)|refine AD ?_|refine FORK.mk ?_ ?_|refine AU ?_|(refine IW ?_ ?_<;>intro h<;>try(exfalso;omega)))<;>conv=>whnf)
  refine CALL.aA [0] (hbl) ?_;rintro r O nx ⟨rfl,rfl,rfl⟩;conv=>whnf
  repeat'((first|refine ADD.mk (fun _ _=>?_)|refine AD ?_|refine FORK.mk ?_ ?_|refine AU ?_|(refine IW ?_ ?_<;>intro h<;>try(exfalso;omega)))<;>conv=>whnf)
  ·refine FIN.valueK h0 rfl (congrArg (SV.int _) ?_);unfold valE Y1;rw[if_pos ⟨hv0,by omega⟩]
  ·refine FIN.valueK h0 rfl (congrArg (SV.int _) ?_);unfold valE Y1;rw[if_neg (by rintro⟨_,h1⟩;omega)]
 ·repeat'((first|refine ADD.mk (fun _ _=>?_)|refine AD ?_|refine FORK.mk ?_ ?_|refine AU ?_|(refine IW ?_ ?_<;>intro h<;>try(exfalso;omega)))<;>conv=>whnf)
  refine FIN.valueK h0 rfl (congrArg (SV.int _) ?_);unfold valE;rw[if_neg (by rintro⟨h1,_⟩;exact hv0 h1)]
end Go.Proofs.YtlcbipfmodcedaaGreatDoor
namespace Go.Proofs.YtlcbipfmodcedaaGreatDoor
open Go.Sx Go.Our Go.Lib
open Tryz
def Z6i:Plan:=(Zu [(0,1),(1,1),(2,1),(4,1),(5,1),(6,1),(8,1),(11,1),(3,2),(7,2),(9,1),(10,2),(12,0)])
def Z6j:Plan:=(Zu [(0,1),(1,1),(2,1),(4,1),(5,1),(6,1),(3,2),(7,2),(8,3),(9,1)])
def Z6k:Plan:=(.take 0 1 (.take 1 1 (.take 2 1 (.take 4 1 (.take 5 1 (.take 6 1 (.take 7 1 (.take 9 1 (.take 12 1 (.take 8 2 (.take 10 1 (.take 11 2 (.fork 3 3 13 3 (Zu [(13,3),(14,0),(15,1),(16,0)]) (.fork 3 3 14 0 (Zu [(14,0),(15,1),(16,0)]) (Zu [(3,2),(15,1),(16,0)])))))))))))))))
def rBx(n:Nat)(lim:Option Nat)(nl:Nat):Hp:= .box [.sl (.loc 0) 0 16 n lim, .sl (.loc 2) 0 1 nl none, .mp (.loc 3), .sl (.loc 4) 0 1 nl none]
theorem ZdF(l z:List Qd)(lim:Option Nat)(hl:UF l)(hfew:l.length<=1048576)(hA4:(Y1 l).length<=4096)(hz:(l++z).length<=1152921504606846976):
 Does prog tab 33 1 [.sl (.loc 0) 0 16 l.length lim] [] [(0, .rows 16 ((l++z).map Zd))]
 (fun r O nx=>r= .ptr (.loc 1) 0 0 0/\O=[(1,rBx l.length lim (Y1 l).length),(2, .rows 1 ((Y1 l).map Z8)),(3, .mp (numT (Xs 0 (Y1 l) (Y1 l).length))),(4, .deep false 1 (inK (insV (Y1 l) l)))]/\nx=5):=by
 have hbl:=W5 l z lim hl hz;have hnd:(Y1 l).Nodup:=V9 triL (J1 triL _);have hmem:∀x∈ZR l,x∈Y1 l:=fun x hx=>(Ul _ _).2 hx;refine Does.enter Z0 call33 func33 rfl 89 rfl rfl [.tmp 2] rfl ?_;intro w0 F η0 h0;conv=>whnf
 repeat'((first|refine AU ?_|(refine IW ?_ ?_<;>intro h<;>try(exfalso;omega)))<;>conv=>whnf)
 refine CALL.aA [0] (hbl) ?_;rintro r O nx ⟨rfl,rfl,rfl⟩;have hset:setL Our.cmpL (ZR l)=Y1 l:=rfl;rw[hset];obtain⟨A,hA⟩:∃A,A=Y1 l:=⟨_,rfl⟩;rw[<-hA]at hnd hmem hA4⊢;conv=>whnf
 repeat'((first|refine AU ?_|(refine IW ?_ ?_<;>intro h<;>try(exfalso;omega)))<;>conv=>whnf)
 refine LOOP.gok Z0 [0,3] [] (X:=Nat) (fun i=>i<=A.length) (fun i=>[(4, .int .i64 (i:Int))]) (fun i=>[(1, .rows 1 (A.map Z8)),(2, .mp (numT (Xs 0 A i))),(3, .box [.sl (.loc 0) 0 16 l.length lim, .sl (.loc 1) 0 1 A.length none, .mp (.loc 2), .val (.slice none 0 0)])]) 4 (fun i=>A.length-i) 0 (by omega) ?_;conv=>whnf
 refine⟨by exact GOES.cA h0,?_⟩;intro i hi;conv=>whnf
 by_cases hlt:i<A.length
 ·have hs:=Z6a (b:=0) hlt;rw[Int.zero_add]at hs;have gA:∀{k:Nat},k=i->(A.map Z8)[k]?=some (Z8 A[i]):=fun e=>by subst e;rw[List.getElem?_map,List.getElem?_eq_getElem hlt];rfl
  repeat'((first|(show DRAWN _ _ _ _ _ _ _;first|refine DRAWN.of (id:=5) Z0 mixed Z6i (by kernel_rfl) ?_|refine DRAWN.of (id:=14) Z0 mixed Z6j (by kernel_rfl) ?_|refine DRAWN.of (id:=15) Z0 mixed Z6k (by kernel_rfl) ?_)|refine ADD.mk (fun _ _=>?_)|refine AD ?_|refine FORK.mk ?_ ?_|(refine GET.at (gA (by omega)) ?_;conv=>whnf)|(refine NEED.mk ⟨KT.ok _,Xq KT _ _⟩ ?_;conv=>whnf)|refine AU ?_|(refine IW ?_ ?_<;>intro h<;>try(exfalso;omega)))<;>conv=>whnf)
  all_goals
   first|rw[ZfP,<-hs]|rw[ZfQ,<-hs]
   refine⟨i+1,by omega,by omega,?_⟩;conv=>whnf
   exact GOES.cA h0
 have hie:i=A.length:=by omega
 subst hie;clear hlt;repeat'((first|(refine NEED.mk (Ur 24 rfl (by omega) (by omega) (by omega) (by omega)) ?_;conv=>whnf)|refine AU ?_|(refine IW ?_ ?_<;>intro h<;>try(exfalso;omega)))<;>conv=>whnf)
 refine GHO.loop (GHO.deepen 4 (inK (List.replicate A.length [])) rfl (by rw[Int.toNat_natCast];exact Z5d _)) ?_;rw[Int.toNat_natCast];have hfA:=Zag (b:=0) hnd;refine LOOP.gok Z0 [0,3] [] (X:=Nat) (fun k=>k<=l.length) (fun k=>[(5, .int .i64 (k:Int))]) (fun k=>[(1, .rows 1 (A.map Z8)),(2, .mp (numT (Xs 0 A A.length))),(3, .box [.sl (.loc 0) 0 16 l.length lim, .sl (.loc 1) 0 1 A.length none, .mp (.loc 2), .sl (.loc 4) 0 1 A.length none]),(4, .deep false 1 (inK ((List.range A.length).map (atK A l k))))]) 5 (fun k=>l.length-k) 0 (by omega) ?_;conv=>whnf
 refine⟨by rw[Z5b];exact GOES.cA h0,?_⟩;intro k hk;conv=>whnf
 by_cases hkl:k<l.length
 ·obtain⟨q,hq⟩:∃q,q=l[k]:=⟨_,rfl⟩;have hqA:∀s∈Zv q,s∈A:=fun s hs=>hmem s (List.mem_flatMap.2 ⟨q,by rw[hq];exact List.getElem_mem hkl,hs⟩);have hw:IntKind.i64.wrap ((k:Int)+1)=((k+1:Nat):Int):=by rw[Z9 (by omega) (by omega)];omega
  have hk1:((k+1:Nat):Int).toNat-((k:Int)).toNat=1:=by omega
  have hdr:((l++z).map Zd).drop (0+((k:Int)).toNat)=([q]++(l++z).drop (k+1)).map Zd:=by
   rw[Nat.zero_add,Int.toNat_natCast,<-List.map_drop,List.drop_eq_getElem_cons (show k< (l++z).length by rw[List.length_append];omega),List.getElem_append_left hkl,<-hq];rfl
  have hbq:=W5 [q] ((l++z).drop (k+1)) none (by unfold UF;simp) (by rw[List.length_append,List.length_drop,List.length_singleton];omega);obtain⟨B,hB⟩:∃B,B=setL Our.cmpL (ZR [q]):=⟨_,rfl⟩;rw[<-hB]at hbq;have hBn:B.Nodup:=by rw[hB];exact V9 triL (J1 triL _)
  have hBm:∀s,s∈B<->s∈Zv q:=fun s=>by rw[hB,Ul];simp[ZR]
  have hBl:B.length<=16:=by rw[hB];exact Nat.le_trans (Z5H _) (by simp[ZR];have:=Uo q;omega)
  repeat'((first|(rw[hw];refine NEED.mk ⟨by omega,by omega,Z0u (by omega)⟩ ?_;rw[hk1];conv=>whnf)|refine AU ?_|(refine IW ?_ ?_<;>intro h<;>try(exfalso;omega)))<;>conv=>whnf)
  refine CALL.part rfl (by omega) (fun η1=>?_);rw[hdr];refine CALL.aA [5] (hbq) ?_;rintro r O nx ⟨rfl,rfl,rfl⟩;conv=>whnf
  repeat'((first|refine AU ?_|(refine IW ?_ ?_<;>intro h<;>try(exfalso;omega)))<;>conv=>whnf)
  rw[<-Z7W];refine LOOP.gok Z0 [0,3,5,6] [] (X:=Nat) (fun j=>j<=B.length) (fun j=>[(7, .int .i64 (j:Int)),(6, .sl (.loc 6) 0 1 B.length none)]) (fun j=>[(1, .rows 1 (A.map Z8)),(2, .mp (numT (Xs 0 A A.length))),(3, .box [.sl (.loc 0) 0 16 l.length lim, .sl (.loc 1) 0 1 A.length none, .mp (.loc 2), .sl (.loc 4) 0 1 A.length none]),(4, .deep false 1 (inK (YJ A l k (B.take j)))),(6, .rows 1 (B.map Z8))]) 7 (fun j=>B.length-j) 0 (by omega) ?_;conv=>whnf
  refine⟨by exact GOES.kA h0 [1,2,3,4,5,6],?_⟩;intro j hj;conv=>whnf
  by_cases hjB:j<B.length
  ·have hsA:B[j]∈A:=hqA _ ((hBm _).1 (List.getElem_mem hjB))
   have hT2:B[j]∉B.take j:=fun hm=>by
    obtain⟨m,hmj,he⟩:=List.mem_iff_getElem.1 hm;rw[List.getElem_take]at he;rw[List.length_take]at hmj;exact absurd ((List.getElem_inj hBn).1 he) (by omega)
   have hS:B.take (j+1)=B.take j++ [B[j]]:=List.take_succ_eq_append_getElem hjB;have gB:∀{m:Nat},m=j->(B.map Z8)[m]?=some (Z8 B[j]):=fun e=>by subst e;rw[List.getElem?_map,List.getElem?_eq_getElem hjB];rfl
   obtain⟨T,hTd⟩:∃T,T=B.take j:=⟨_,rfl⟩;rw[<-hTd]at hS hT2⊢;obtain⟨t,ht⟩:∃t,t=B[j]:=⟨_,rfl⟩;rw[<-ht]at hsA hT2 hS gB;have hn0A:=List.idxOf_lt_length_of_mem hsA;have hAn:A[A.idxOf t]=t:=List.getElem_idxOf hn0A;have hix:ixF 0 A t=((A.idxOf t:Nat):Int):=by unfold ixF;rw[if_pos hsA];omega
   generalize A.idxOf t=n0 at hn0A hAn hix;repeat'((first|(show DRAWN _ _ _ _ _ _ _;first|refine DRAWN.of (id:=5) Z0 mixed Z6i (by kernel_rfl) ?_|refine DRAWN.of (id:=14) Z0 mixed Z6j (by kernel_rfl) ?_|refine DRAWN.of (id:=15) Z0 mixed Z6k (by kernel_rfl) ?_)|refine ADD.mk (fun _ _=>?_)|refine AD ?_|refine FORK.mk ?_ ?_|(refine GET.at (gB (by omega)) ?_;conv=>whnf)|refine AU ?_|(refine IW ?_ ?_<;>intro h<;>try(exfalso;omega)))<;>conv=>whnf)
   refine NEED.mk ⟨KT.ok _,Xq KT intV _⟩ ?_;refine FIND.A KT intV t (Xs 0 A A.length) (fun i v hf=>?_) (fun hf=>?_)
   rotate_left
   ·have hg:=JJ (b:=0) hnd A.length t (Nat.le_refl _);rw[XD hf,<-hAn,hnd.idxOf_getElem n0 hn0A,dif_pos hn0A]at hg;cases hg
   have hv:=VM hf;rw[hfA,hix]at hv;subst hv;conv=>whnf
   have hnI:n0< (YJ A l k T).length:=by rw[XB];exact hn0A
   have hPl:(YJ A l k T)[n0].length<=1048577:=by have:=Z0M _ (List.getElem_mem hnI);omega
   refine GHO.drawn (GHO.take 4 n0 0 rfl (Ya hnI) rfl) ?_;rw[show(List.map ZT (YJ A l k T)[n0]).length=(YJ A l k T)[n0].length from List.length_map ..];obtain⟨L,hL⟩:∃L,L=(YJ A l k T)[n0]:=⟨_,rfl⟩;rw[<-hL]at hPl⊢;rw[<-hAn]at hT2;clear hqA hmem hbl hset hbq;repeat'((first|(show DRAWN _ _ _ _ _ _ _;first|refine DRAWN.of (id:=5) Z0 mixed Z6i (by kernel_rfl) ?_|refine DRAWN.of (id:=14) Z0 mixed Z6j (by kernel_rfl) ?_|refine DRAWN.of (id:=15) Z0 mixed Z6k (by kernel_rfl) ?_)|refine ADD.mk (fun _ _=>?_)|refine AD ?_|refine FORK.mk ?_ ?_|(refine GET.at (by rw[Nat.zero_add];exact YF (Ya hnI)) ?_;conv=>whnf)|(refine FINDD.at (by rw[Nat.zero_add];exact YG (Ya hnI)) ?_;conv=>whnf)|(refine NEED.mk (Zj 8 rfl rfl (by simp) (by simp) (by omega)) ?_;conv=>whnf)|refine AU ?_|(refine IW ?_ ?_<;>intro h<;>try(exfalso;omega)))<;>conv=>whnf)
   all_goals
    rw[Uu hnI (by omega) (s:=k) (by rw[<-hL];rw[List.take_of_length_le (by simp),List.take_of_length_le (by simp)];simp[ZT]),<-J7 hnd hn0A hT2,hAn,<-hS];refine⟨j+1,by omega,by omega,?_⟩;conv=>whnf
    exact GOES.kA h0 [1,2,3,4,5,6]
  ·have hje:j=B.length:=by omega
   subst hje;rw[List.take_length,Z7X hkl (fun s _=>by rw[hBm,hq])];repeat'((first|refine AU ?_|(refine IW ?_ ?_<;>intro h<;>try(exfalso;omega)))<;>conv=>whnf)
   refine⟨k+1,by omega,by omega,?_⟩;conv=>whnf
   exact GOES.kA h0 [1,2,3,4]
 ·have hke:k=l.length:=by omega
  subst hke;repeat'((first|refine AU ?_|(refine IW ?_ ?_<;>intro h<;>try(exfalso;omega)))<;>conv=>whnf)
  exact FIN.aA h0 [3,1,2,4] (.ptr (.loc 1) 0 0 0) [(1,rBx l.length lim A.length),(2, .rows 1 (A.map Z8)),(3, .mp (numT (Xs 0 A A.length))),(4, .deep false 1 (inK (insV A l)))] ⟨rfl,rfl,rfl⟩
open Tryz
def Yn:Plan:=(Zu [(0,1),(1,1),(2,1),(3,1),(4,1),(6,1),(7,1),(8,1),(9,1),(10,1),(5,3),(11,3),(12,1),(13,1)])
def Yo:Plan:=(Zu [(0,1),(1,1),(2,1),(3,1),(4,1),(5,1),(6,1),(7,1),(8,1),(9,1),(11,1),(12,1),(10,2),(13,2),(14,3),(15,1),(16,1),(17,1)])
theorem CALL.saysW{M:Mx}{O:Hps}{nx:Nat}{G:World->Prop}{f:FuncId}{args:List SV}{K:SV->Hps->Nat->Prop}{r:SV}(sp:DoesW G M.P M.C.T f 0 args [] [] (Val r))(hG:∀η w,HeapOK M η w O nx->G w)(hp:plain r=true)(hpa:YK args=true)(hK:K r O nx):CALL M f args O nx K:=by
 refine CALL.ofW [] sp hG rfl (fun i hi=>by cases hi) (ZI _ hpa).symm (Zy 0 hpa) (fun p hp=>by cases hp) (fun j hj=>by cases hj) (fun p hp=>by cases hp) ?_;rintro r' O' nx' ⟨rfl,rfl,rfl⟩;rw[Xf _ hp];simpa[renO,Za,Jg]using hK
def YT(col:Nat->Int)(vl:Nat->Value)(x:Nat):List SV:=[.int .i64 (x:Int), .int .i64 (col x), .val (vl x)]
theorem Uw(col:Nat->Int)(vl:Nat->Value)(l:List Nat):Zh (l.map (YT col vl))=true:=Zz _ (fun _=>rfl) l
instance {col:Nat->Int}{vl:Nat->Value}:PlF (YT col vl):=⟨fun _=>rfl⟩
abbrev cNd(col:Nat->Int)(sg:Nat->List Qd)(a b:Nat):Int:=VA (col a) (col b) (sg a) (sg b)
def Zib(col:Nat->Int)(vl:Nat->Value)(sg:Nat->List Qd)(i n:Nat)(l:List Nat):SV->Hps->Nat->Prop:=fun r O nx=>
 (n<2/\r= .sl (.loc 0) i 3 n none/\O=[]/\nx=1)\/(2<=n/\∃o:List Nat,o.Perm l/\(o.Pairwise fun a b=>cNd col sg a b<=0)/\r= .sl (.loc 1) 0 3 n none/\O=[(1, .rows 3 (o.map (YT col vl)))]/\nx=2)
theorem VB{c:Nat->Nat->Int}{l:List Nat}(h:l.length<2):l.Pairwise fun a b=>c a b<=0:=by
 match l,h with
 | [],_=>exact .nil
 | [x],_=>simp
theorem Z9h(col:Nat->Int)(vl:Nat->Value)(sg:Nat->List Qd)(hsl:∀x,(sg x).length<=1152921504606846976)(hcl:∀x,0<=col x/\col x<1048576)(hpre:Pre (cNd col sg))(L:List Nat)(hL:L.length<=1048576):
 ∀(k n i:Nat) (hk:n<=k) (hi:i+n<=L.length),DoesW (fun w=> ∀x∈L,∃en,LentIn w (vl x) 16 ((sg x).map Zd) en) prog tab 67 1 [.sl (.loc 0) i 3 n none] [] [(0, .rows 3 (L.map (YT col vl)))] (Zib col vl sg i n ((L.drop i).take n)):=by
 intro k
 induction k with
 |zero=>
  intro n i hk hi;refine Does.enterW Z0 call67 func67 rfl 65 rfl rfl [.tmp 2] rfl ?_;intro w0 F η0 h0 hG hF;conv=>whnf
  repeat'((first|refine AU ?_|(refine IW ?_ ?_<;>intro h<;>try(exfalso;omega)))<;>conv=>whnf)
  exact FIN.aA h0 [] (.sl (.loc 0) i 3 n none) [] (.inl ⟨by omega,rfl,rfl,rfl⟩)
 |succ k ih=>
  intro n i hk hi;by_cases hn2:n<2
  ·refine Does.enterW Z0 call67 func67 rfl 65 rfl rfl [.tmp 2] rfl ?_;intro w0 F η0 h0 hG hF;conv=>whnf
   repeat'((first|refine AU ?_|(refine IW ?_ ?_<;>intro h<;>try(exfalso;omega)))<;>conv=>whnf)
   exact FIN.aA h0 [] (.sl (.loc 0) i 3 n none) [] (.inl ⟨by omega,rfl,rfl,rfl⟩)
  have h1:=ih (n/2) i (by omega) (by omega);have h2:=ih (n-n/2) (i+n/2) (by omega) (by omega);have hd:(n:Int).tdiv 2=((n/2:Nat):Int):=by rw[Int.tdiv_eq_ediv_of_nonneg (by omega)];omega
  have hdw:IntKind.i64.wrap ((n:Int).tdiv 2)=((n/2:Nat):Int):=by rw[hd,Z9 (by omega) (by omega)]
  have gN:∀{S:List Nat} {p m:Nat} (h:p<S.length),m=0+p->(S.map (YT col vl))[m]?=some (YT col vl S[p]):=fun h e=>by subst e;rw[List.getElem?_map,List.getElem?_eq_getElem (by omega)];simp
  have gO:∀{o k p m:Nat} (h:p< ((L.drop o).take k).length),m=o+p->(L.map (YT col vl))[m]?=some (YT col vl ((L.drop o).take k)[p]):=fun{o k p m} h e=>by
   subst e;have h1:=h;rw[List.length_take,List.length_drop]at h1;rw[List.getElem?_map,List.getElem?_eq_getElem (by omega),List.getElem_take,List.getElem_drop];rfl
  have hMem:∀{S:List Nat} {o k:Nat},S.Perm ((L.drop o).take k)->∀x∈S,x∈L:=fun h x hx=>List.mem_of_mem_drop (List.mem_of_mem_take (h.mem_iff.1 hx))
  have hTP:∀(SA SB:List Nat),SA.Perm ((L.drop i).take (n/2))->SB.Perm ((L.drop (i+n/2)).take (n-n/2))->(mgM (cNd col sg) SA SB).Perm ((L.drop i).take n):=fun SA SB h1 h2=>by
   refine(Z1q _ _ _ (Nat.le_refl _)).trans ((h1.append h2).trans ?_);rw[show(L.drop i).take (n/2)=((L.drop i).take n).take (n/2)by rw[List.take_take,Nat.min_eq_left (by omega)],show(L.drop (i+n/2)).take (n-n/2)=((L.drop i).take n).drop (n/2)by rw[List.drop_take,List.drop_drop],List.take_append_drop]
  refine Does.enterW Z0 call67 func67 rfl 65 rfl rfl [.tmp 2] rfl ?_;intro w0 F η0 h0 hG hF;conv=>whnf
  have hno:∀k, ¬F k:=fun k h=>by rw[hF]at h;simp[Yk,lkp]at h
  have hGn:∀x∈L,∀{w':World},FrW w0 w' F->∃en,LentIn w' (vl x) 16 ((sg x).map Zd) en:=fun x hx w' hf=>let⟨en,h⟩:=hG x hx;⟨en,h.now hf hno⟩
  repeat'((first|(refine ADD.mkH (fun η2 w2 H2=>?_);(have hG2:=fun x hx=>hGn x hx H2.fr);conv=>whnf)|(show DRAWN _ _ _ _ _ _ _;first|refine DRAWN.of (id:=3) Z0 mixed Yn (by kernel_rfl) ?_|refine DRAWN.of (id:=6) Z0 mixed Yo (by kernel_rfl) ?_)|refine ADD.mk (fun _ _=>?_)|refine AD ?_|refine FORK.mk ?_ ?_|(rw[hdw];conv=>whnf)|(rw[Int.toNat_natCast];conv=>whnf)|refine AU ?_|(refine IW ?_ ?_<;>intro h<;>try(exfalso;omega)))<;>conv=>whnf)
  refine CALL.ofW [0] h1 (fun η' w' H' x hx=>let⟨en,h⟩:=hG2 x hx;⟨en,h.now H'.fr (fun k h=>h)⟩) rfl (fun i hi=>by simp at hi;omega) rfl rfl (fun p hp=>by cases hp) (fun j hj=>by cases hj) (fun p hp=>by
   obtain rfl:=List.mem_singleton.1 hp
   exact⟨by show 0<1;omega,by rw[Zw _ (h:= .rows _ _) (Uw col vl L)];rfl,YA _ (h:= .rows _ _) (Uw col vl L),by simp[Za]⟩) ?_
  rintro r O nx (⟨g1,rfl,rfl,rfl⟩|⟨g1,oA,pA,sA,rfl,rfl,rfl⟩)
  ·conv=>whnf
   repeat'((first|(refine ADD.mkH (fun η2 w2 H2=>?_);(have hG2:=fun x hx=>hGn x hx H2.fr);conv=>whnf)|(show DRAWN _ _ _ _ _ _ _;first|refine DRAWN.of (id:=3) Z0 mixed Yn (by kernel_rfl) ?_|refine DRAWN.of (id:=6) Z0 mixed Yo (by kernel_rfl) ?_)|refine ADD.mk (fun _ _=>?_)|refine AD ?_|refine FORK.mk ?_ ?_|(rw[hdw];conv=>whnf)|(rw[Int.toNat_natCast];conv=>whnf)|refine AU ?_|(refine IW ?_ ?_<;>intro h<;>try(exfalso;omega)))<;>conv=>whnf)
   refine CALL.ofW [0] h2 (fun η' w' H' x hx=>let⟨en,h⟩:=hG2 x hx;⟨en,h.now H'.fr (fun k h=>h)⟩) rfl (fun i hi=>by simp at hi;omega) rfl rfl (fun p hp=>by cases hp) (fun j hj=>by cases hj) (fun p hp=>by
    obtain rfl:=List.mem_singleton.1 hp
    exact⟨by show 0<1;omega,by rw[Zw _ (h:= .rows _ _) (Uw col vl L)];rfl,YA _ (h:= .rows _ _) (Uw col vl L),by simp[Za]⟩) ?_
   rintro r O nx (⟨g2,rfl,rfl,rfl⟩|⟨g2,oB,pB,sB,rfl,rfl,rfl⟩)
   ·conv=>whnf
    repeat'((first|(show DRAWN _ _ _ _ _ _ _;first|refine DRAWN.of (id:=3) Z0 mixed Yn (by kernel_rfl) ?_|refine DRAWN.of (id:=6) Z0 mixed Yo (by kernel_rfl) ?_)|refine ADD.mk (fun _ _=>?_)|refine AD ?_|refine FORK.mk ?_ ?_|refine AU ?_|(refine IW ?_ ?_<;>intro h<;>try(exfalso;omega)))<;>conv=>whnf)
    obtain⟨SA,hSA⟩:∃S,S=(L.drop (i)).take (n/2):=⟨_,rfl⟩;have pA:SA.Perm ((L.drop (i)).take (n/2)):=hSA▸List.Perm.refl _;have hSAl:SA.length=n/2:=by rw[pA.length_eq,List.length_take,List.length_drop];omega
    have sA:SA.Pairwise fun a b=>cNd col sg a b<=0:=VB (by omega);have gA:∀{p m:Nat} (h:p<SA.length),m=i+p->(L.map (YT col vl))[m]?=some (YT col vl SA[p]):=by subst hSA;exact fun h e=>gO h e
    obtain⟨SB,hSB⟩:∃S,S=(L.drop (i+n/2)).take (n-n/2):=⟨_,rfl⟩;have pB:SB.Perm ((L.drop (i+n/2)).take (n-n/2)):=hSB▸List.Perm.refl _;have hSBl:SB.length=n-n/2:=by rw[pB.length_eq,List.length_take,List.length_drop];omega
    have sB:SB.Pairwise fun a b=>cNd col sg a b<=0:=VB (by omega);have gB:∀{p m:Nat} (h:p<SB.length),m=i+n/2+p->(L.map (YT col vl))[m]?=some (YT col vl SB[p]):=by subst hSB;exact fun h e=>gO h e
    have hSAm:=hMem pA;have hSBm:=hMem pB;have hT:([]:List Nat)++mgM (cNd col sg) (SA.drop 0) (SB.drop 0)=mgM (cNd col sg) SA SB:=rfl;have hTs:=U0 hpre _ SA SB (Nat.le_refl _) sA sB;have hTp:=hTP SA SB pA pB;generalize mgM (cNd col sg) SA SB=T at hT hTs hTp;have hTl:T.length=n:=by rw[hTp.length_eq,List.length_take,List.length_drop];omega
    refine LOOP.nil 5 3 rfl ?_
    refine LOOP.gok Z0 [] [] (X:=List Nat×Nat×Nat) (fun x=>x.2.1<=n/2/\x.2.2<=n-n/2/\x.1.length=x.2.1+x.2.2/\x.1++mgM (cNd col sg) (SA.drop x.2.1) (SB.drop x.2.2)=T)
     (fun x=>[(3, .sl (.loc 0) (i+x.2.1) 3 (n/2-x.2.1) none),(4, .sl (.loc 0) (i+n/2+x.2.2) 3 (n-n/2-x.2.2) none),(5, .sl (.loc 1) 0 3 x.1.length none)]) (fun x=>[(1, .rows 3 (x.1.map (YT col vl)))]) 2 (fun x=>(n/2-x.2.1)+(n-n/2-x.2.2)) ([],0,0) ⟨by simp,by simp,by simp,hT⟩ ?_
    conv=>whnf
    refine⟨by exact GOES.kA h0 [1],?_⟩;rintro⟨out,p,q⟩ ⟨hp,hq,ho,hr⟩;dsimp only at hp hq ho hr⊢;have ho2:out.length<=2097152:=by omega
    conv=>whnf
    by_cases hpn:p<n/2
    ·have gA:=fun{m:Nat}=>gA (p:=p) (m:=m) (by omega);by_cases hqn:q<n-n/2
     ·have gB:=fun{m:Nat}=>gB (p:=q) (m:=m) (by omega);repeat'((first|(refine ADD.mkH (fun η3 w3 H3=>?_);(have hG3:=fun x hx=>hGn x hx H3.fr);conv=>whnf)|(show DRAWN _ _ _ _ _ _ _;first|refine DRAWN.of (id:=3) Z0 mixed Yn (by kernel_rfl) ?_|refine DRAWN.of (id:=6) Z0 mixed Yo (by kernel_rfl) ?_)|refine ADD.mk (fun _ _=>?_)|refine AD ?_|refine FORK.mk ?_ ?_|(refine CALL.saysW (J8 (SA[p]'(by omega)) (SB[q]'(by omega)) (col (SA[p]'(by omega))) (col (SB[q]'(by omega))) (vl (SA[p]'(by omega))) (vl (SB[q]'(by omega))) (sg (SA[p]'(by omega))) (sg (SB[q]'(by omega))) (hsl _) (hsl _) (hcl _) (hcl _)) (fun η' w' H'=>⟨(let⟨en,h⟩:=hG3 _ (hSAm _ (List.getElem_mem (by omega)));⟨en,h.now H'.fr (fun k h=>h)⟩),(let⟨en,h⟩:=hG3 _ (hSBm _ (List.getElem_mem (by omega)));⟨en,h.now H'.fr (fun k h=>h)⟩)⟩) rfl rfl ?_;conv=>whnf)|(refine NEED.mk (Zj 40 rfl rfl rfl (by simp) (by omega)) ?_;conv=>whnf)|(refine GET.at (gA (by omega)) ?_;conv=>whnf)|(refine GET.at (gB (by omega)) ?_;conv=>whnf)|(refine NEED.mk ⟨by omega,by omega⟩ ?_;conv=>whnf)|refine AU ?_|(refine IW ?_ ?_<;>intro h<;>try(exfalso;omega)))<;>conv=>whnf)
      ·refine⟨(out++ [SA[p]'(by omega)],p+1,q),⟨by dsimp only;omega,by dsimp only;omega,by dsimp only;rw[List.length_append,List.length_singleton];omega,XF (p:=p) (q:=q) (by omega) (.inr ⟨by omega,by unfold cNd;assumption⟩) hr⟩,by dsimp only;omega,?_⟩;dsimp only;conv=>whnf
       exact GOES.kA h0 [3]
      ·refine⟨(out++ [SB[q]'(by omega)],p,q+1),⟨by dsimp only;omega,by dsimp only;omega,by dsimp only;rw[List.length_append,List.length_singleton];omega,XG (p:=p) (q:=q) (by omega) (.inr ⟨by omega,by unfold cNd;omega⟩) hr⟩,by dsimp only;omega,?_⟩;dsimp only;conv=>whnf
       exact GOES.kA h0 [3]
     ·repeat'((first|(show DRAWN _ _ _ _ _ _ _;first|refine DRAWN.of (id:=3) Z0 mixed Yn (by kernel_rfl) ?_|refine DRAWN.of (id:=6) Z0 mixed Yo (by kernel_rfl) ?_)|refine ADD.mk (fun _ _=>?_)|refine AD ?_|refine FORK.mk ?_ ?_|(refine NEED.mk (Zj 40 rfl rfl rfl (by simp) (by omega)) ?_;conv=>whnf)|(refine GET.at (gA (by omega)) ?_;conv=>whnf)|(refine NEED.mk ⟨by omega,by omega⟩ ?_;conv=>whnf)|refine AU ?_|(refine IW ?_ ?_<;>intro h<;>try(exfalso;omega)))<;>conv=>whnf)
      refine⟨(out++ [SA[p]'(by omega)],p+1,q),⟨by dsimp only;omega,by dsimp only;omega,by dsimp only;rw[List.length_append,List.length_singleton];omega,XF (p:=p) (q:=q) (by omega) (.inl (by omega)) hr⟩,by dsimp only;omega,?_⟩;dsimp only;conv=>whnf
      exact GOES.kA h0 [3]
    ·by_cases hqn:q<n-n/2
     ·have gB:=fun{m:Nat}=>gB (p:=q) (m:=m) (by omega);repeat'((first|(show DRAWN _ _ _ _ _ _ _;first|refine DRAWN.of (id:=3) Z0 mixed Yn (by kernel_rfl) ?_|refine DRAWN.of (id:=6) Z0 mixed Yo (by kernel_rfl) ?_)|refine ADD.mk (fun _ _=>?_)|refine AD ?_|refine FORK.mk ?_ ?_|(refine NEED.mk (Zj 40 rfl rfl rfl (by simp) (by omega)) ?_;conv=>whnf)|(refine GET.at (gB (by omega)) ?_;conv=>whnf)|(refine NEED.mk ⟨by omega,by omega⟩ ?_;conv=>whnf)|refine AU ?_|(refine IW ?_ ?_<;>intro h<;>try(exfalso;omega)))<;>conv=>whnf)
      refine⟨(out++ [SB[q]'(by omega)],p,q+1),⟨by dsimp only;omega,by dsimp only;omega,by dsimp only;rw[List.length_append,List.length_singleton];omega,XG (p:=p) (q:=q) (by omega) (.inl (by omega)) hr⟩,by dsimp only;omega,?_⟩;dsimp only;conv=>whnf
      exact GOES.kA h0 [3]
     ·have hfin:=Z5e (by omega) (by omega) hr;have hon:out.length=n:=by omega
      repeat'((first|(show DRAWN _ _ _ _ _ _ _;first|refine DRAWN.of (id:=3) Z0 mixed Yn (by kernel_rfl) ?_|refine DRAWN.of (id:=6) Z0 mixed Yo (by kernel_rfl) ?_)|refine ADD.mk (fun _ _=>?_)|refine AD ?_|refine FORK.mk ?_ ?_|refine AU ?_|(refine IW ?_ ?_<;>intro h<;>try(exfalso;omega)))<;>conv=>whnf)
      rw[hon,hfin];exact FIN.aA h0 [1] (.sl (.loc 1) 0 3 n none) [(1, .rows 3 (T.map (YT col vl)))] (.inr ⟨by omega,T,hTp,hTs,rfl,rfl,rfl⟩)
   ·conv=>whnf
    repeat'((first|(show DRAWN _ _ _ _ _ _ _;first|refine DRAWN.of (id:=3) Z0 mixed Yn (by kernel_rfl) ?_|refine DRAWN.of (id:=6) Z0 mixed Yo (by kernel_rfl) ?_)|refine ADD.mk (fun _ _=>?_)|refine AD ?_|refine FORK.mk ?_ ?_|refine AU ?_|(refine IW ?_ ?_<;>intro h<;>try(exfalso;omega)))<;>conv=>whnf)
    obtain⟨SA,hSA⟩:∃S,S=(L.drop (i)).take (n/2):=⟨_,rfl⟩;have pA:SA.Perm ((L.drop (i)).take (n/2)):=hSA▸List.Perm.refl _;have hSAl:SA.length=n/2:=by rw[pA.length_eq,List.length_take,List.length_drop];omega
    have sA:SA.Pairwise fun a b=>cNd col sg a b<=0:=VB (by omega);have gA:∀{p m:Nat} (h:p<SA.length),m=i+p->(L.map (YT col vl))[m]?=some (YT col vl SA[p]):=by subst hSA;exact fun h e=>gO h e
    obtain⟨SB,hSB⟩:∃S,S=oB:=⟨_,rfl⟩;rw[<-hSB]at pB sB⊢;have hSBl:SB.length=n-n/2:=by rw[pB.length_eq,List.length_take,List.length_drop];omega
    have gB:∀{p m:Nat} (h:p<SB.length),m=0+p->(SB.map (YT col vl))[m]?=some (YT col vl SB[p]):=fun h e=>gN h e;have hSAm:=hMem pA;have hSBm:=hMem pB;have hT:([]:List Nat)++mgM (cNd col sg) (SA.drop 0) (SB.drop 0)=mgM (cNd col sg) SA SB:=rfl;have hTs:=U0 hpre _ SA SB (Nat.le_refl _) sA sB;have hTp:=hTP SA SB pA pB;generalize mgM (cNd col sg) SA SB=T at hT hTs hTp;have hTl:T.length=n:=by rw[hTp.length_eq,List.length_take,List.length_drop];omega
    refine LOOP.nil 5 3 rfl ?_
    refine LOOP.gok Z0 [] [] (X:=List Nat×Nat×Nat) (fun x=>x.2.1<=n/2/\x.2.2<=n-n/2/\x.1.length=x.2.1+x.2.2/\x.1++mgM (cNd col sg) (SA.drop x.2.1) (SB.drop x.2.2)=T)
     (fun x=>[(3, .sl (.loc 0) (i+x.2.1) 3 (n/2-x.2.1) none),(4, .sl (.loc 1) (0+x.2.2) 3 (n-n/2-x.2.2) none),(5, .sl (.loc 2) 0 3 x.1.length none)]) (fun x=>[(1, .rows 3 (SB.map (YT col vl))),(2, .rows 3 (x.1.map (YT col vl)))]) 3 (fun x=>(n/2-x.2.1)+(n-n/2-x.2.2)) ([],0,0) ⟨by simp,by simp,by simp,hT⟩ ?_
    conv=>whnf
    refine⟨by exact GOES.kA h0 [1,2],?_⟩;rintro⟨out,p,q⟩ ⟨hp,hq,ho,hr⟩;dsimp only at hp hq ho hr⊢;have ho2:out.length<=2097152:=by omega
    conv=>whnf
    by_cases hpn:p<n/2
    ·have gA:=fun{m:Nat}=>gA (p:=p) (m:=m) (by omega);by_cases hqn:q<n-n/2
     ·have gB:=fun{m:Nat}=>gB (p:=q) (m:=m) (by omega);repeat'((first|(refine ADD.mkH (fun η3 w3 H3=>?_);(have hG3:=fun x hx=>hGn x hx H3.fr);conv=>whnf)|(show DRAWN _ _ _ _ _ _ _;first|refine DRAWN.of (id:=3) Z0 mixed Yn (by kernel_rfl) ?_|refine DRAWN.of (id:=6) Z0 mixed Yo (by kernel_rfl) ?_)|refine ADD.mk (fun _ _=>?_)|refine AD ?_|refine FORK.mk ?_ ?_|(refine CALL.saysW (J8 (SA[p]'(by omega)) (SB[q]'(by omega)) (col (SA[p]'(by omega))) (col (SB[q]'(by omega))) (vl (SA[p]'(by omega))) (vl (SB[q]'(by omega))) (sg (SA[p]'(by omega))) (sg (SB[q]'(by omega))) (hsl _) (hsl _) (hcl _) (hcl _)) (fun η' w' H'=>⟨(let⟨en,h⟩:=hG3 _ (hSAm _ (List.getElem_mem (by omega)));⟨en,h.now H'.fr (fun k h=>h)⟩),(let⟨en,h⟩:=hG3 _ (hSBm _ (List.getElem_mem (by omega)));⟨en,h.now H'.fr (fun k h=>h)⟩)⟩) rfl rfl ?_;conv=>whnf)|(refine NEED.mk (Zj 40 rfl rfl rfl (by simp) (by omega)) ?_;conv=>whnf)|(refine GET.at (gA (by omega)) ?_;conv=>whnf)|(refine GET.at (gB (by omega)) ?_;conv=>whnf)|(refine NEED.mk ⟨by omega,by omega⟩ ?_;conv=>whnf)|refine AU ?_|(refine IW ?_ ?_<;>intro h<;>try(exfalso;omega)))<;>conv=>whnf)
      ·refine⟨(out++ [SA[p]'(by omega)],p+1,q),⟨by dsimp only;omega,by dsimp only;omega,by dsimp only;rw[List.length_append,List.length_singleton];omega,XF (p:=p) (q:=q) (by omega) (.inr ⟨by omega,by unfold cNd;assumption⟩) hr⟩,by dsimp only;omega,?_⟩;dsimp only;conv=>whnf
       exact GOES.kA h0 [1,4]
      ·refine⟨(out++ [SB[q]'(by omega)],p,q+1),⟨by dsimp only;omega,by dsimp only;omega,by dsimp only;rw[List.length_append,List.length_singleton];omega,XG (p:=p) (q:=q) (by omega) (.inr ⟨by omega,by unfold cNd;omega⟩) hr⟩,by dsimp only;omega,?_⟩;dsimp only;conv=>whnf
       exact GOES.kA h0 [1,4]
     ·repeat'((first|(show DRAWN _ _ _ _ _ _ _;first|refine DRAWN.of (id:=3) Z0 mixed Yn (by kernel_rfl) ?_|refine DRAWN.of (id:=6) Z0 mixed Yo (by kernel_rfl) ?_)|refine ADD.mk (fun _ _=>?_)|refine AD ?_|refine FORK.mk ?_ ?_|(refine NEED.mk (Zj 40 rfl rfl rfl (by simp) (by omega)) ?_;conv=>whnf)|(refine GET.at (gA (by omega)) ?_;conv=>whnf)|(refine NEED.mk ⟨by omega,by omega⟩ ?_;conv=>whnf)|refine AU ?_|(refine IW ?_ ?_<;>intro h<;>try(exfalso;omega)))<;>conv=>whnf)
      refine⟨(out++ [SA[p]'(by omega)],p+1,q),⟨by dsimp only;omega,by dsimp only;omega,by dsimp only;rw[List.length_append,List.length_singleton];omega,XF (p:=p) (q:=q) (by omega) (.inl (by omega)) hr⟩,by dsimp only;omega,?_⟩;dsimp only;conv=>whnf
      exact GOES.kA h0 [1,4]
    ·by_cases hqn:q<n-n/2
     ·have gB:=fun{m:Nat}=>gB (p:=q) (m:=m) (by omega);repeat'((first|(show DRAWN _ _ _ _ _ _ _;first|refine DRAWN.of (id:=3) Z0 mixed Yn (by kernel_rfl) ?_|refine DRAWN.of (id:=6) Z0 mixed Yo (by kernel_rfl) ?_)|refine ADD.mk (fun _ _=>?_)|refine AD ?_|refine FORK.mk ?_ ?_|(refine NEED.mk (Zj 40 rfl rfl rfl (by simp) (by omega)) ?_;conv=>whnf)|(refine GET.at (gB (by omega)) ?_;conv=>whnf)|(refine NEED.mk ⟨by omega,by omega⟩ ?_;conv=>whnf)|refine AU ?_|(refine IW ?_ ?_<;>intro h<;>try(exfalso;omega)))<;>conv=>whnf)
      refine⟨(out++ [SB[q]'(by omega)],p,q+1),⟨by dsimp only;omega,by dsimp only;omega,by dsimp only;rw[List.length_append,List.length_singleton];omega,XG (p:=p) (q:=q) (by omega) (.inl (by omega)) hr⟩,by dsimp only;omega,?_⟩;dsimp only;conv=>whnf
      exact GOES.kA h0 [1,4]
     ·have hfin:=Z5e (by omega) (by omega) hr;have hon:out.length=n:=by omega
      repeat'((first|(show DRAWN _ _ _ _ _ _ _;first|refine DRAWN.of (id:=3) Z0 mixed Yn (by kernel_rfl) ?_|refine DRAWN.of (id:=6) Z0 mixed Yo (by kernel_rfl) ?_)|refine ADD.mk (fun _ _=>?_)|refine AD ?_|refine FORK.mk ?_ ?_|refine AU ?_|(refine IW ?_ ?_<;>intro h<;>try(exfalso;omega)))<;>conv=>whnf)
      rw[hon,hfin];exact FIN.aA h0 [2] (.sl (.loc 1) 0 3 n none) [(1, .rows 3 (T.map (YT col vl)))] (.inr ⟨by omega,T,hTp,hTs,rfl,rfl,rfl⟩)
  ·conv=>whnf
   repeat'((first|(refine ADD.mkH (fun η2 w2 H2=>?_);(have hG2:=fun x hx=>hGn x hx H2.fr);conv=>whnf)|(show DRAWN _ _ _ _ _ _ _;first|refine DRAWN.of (id:=3) Z0 mixed Yn (by kernel_rfl) ?_|refine DRAWN.of (id:=6) Z0 mixed Yo (by kernel_rfl) ?_)|refine ADD.mk (fun _ _=>?_)|refine AD ?_|refine FORK.mk ?_ ?_|(rw[hdw];conv=>whnf)|(rw[Int.toNat_natCast];conv=>whnf)|refine AU ?_|(refine IW ?_ ?_<;>intro h<;>try(exfalso;omega)))<;>conv=>whnf)
   refine CALL.ofW [0] h2 (fun η' w' H' x hx=>let⟨en,h⟩:=hG2 x hx;⟨en,h.now H'.fr (fun k h=>h)⟩) rfl (fun i hi=>by simp at hi;omega) rfl rfl (fun p hp=>by cases hp) (fun j hj=>by cases hj) (fun p hp=>by
    obtain rfl:=List.mem_singleton.1 hp
    exact⟨by show 0<1;omega,by rw[Zw _ (h:= .rows _ _) (Uw col vl L)];rfl,YA _ (h:= .rows _ _) (Uw col vl L),by simp[Za]⟩) ?_
   rintro r O nx (⟨g2,rfl,rfl,rfl⟩|⟨g2,oB,pB,sB,rfl,rfl,rfl⟩)
   ·exfalso;omega
   ·conv=>whnf
    repeat'((first|(show DRAWN _ _ _ _ _ _ _;first|refine DRAWN.of (id:=3) Z0 mixed Yn (by kernel_rfl) ?_|refine DRAWN.of (id:=6) Z0 mixed Yo (by kernel_rfl) ?_)|refine ADD.mk (fun _ _=>?_)|refine AD ?_|refine FORK.mk ?_ ?_|refine AU ?_|(refine IW ?_ ?_<;>intro h<;>try(exfalso;omega)))<;>conv=>whnf)
    obtain⟨SA,hSA⟩:∃S,S=oA:=⟨_,rfl⟩;rw[<-hSA]at pA sA⊢;have hSAl:SA.length=n/2:=by rw[pA.length_eq,List.length_take,List.length_drop];omega
    have gA:∀{p m:Nat} (h:p<SA.length),m=0+p->(SA.map (YT col vl))[m]?=some (YT col vl SA[p]):=fun h e=>gN h e;obtain⟨SB,hSB⟩:∃S,S=oB:=⟨_,rfl⟩;rw[<-hSB]at pB sB⊢;have hSBl:SB.length=n-n/2:=by rw[pB.length_eq,List.length_take,List.length_drop];omega
    have gB:∀{p m:Nat} (h:p<SB.length),m=0+p->(SB.map (YT col vl))[m]?=some (YT col vl SB[p]):=fun h e=>gN h e;have hSAm:=hMem pA;have hSBm:=hMem pB;have hT:([]:List Nat)++mgM (cNd col sg) (SA.drop 0) (SB.drop 0)=mgM (cNd col sg) SA SB:=rfl;have hTs:=U0 hpre _ SA SB (Nat.le_refl _) sA sB;have hTp:=hTP SA SB pA pB;generalize mgM (cNd col sg) SA SB=T at hT hTs hTp;have hTl:T.length=n:=by rw[hTp.length_eq,List.length_take,List.length_drop];omega
    refine LOOP.nil 5 3 rfl ?_
    refine LOOP.gok Z0 [] [] (X:=List Nat×Nat×Nat) (fun x=>x.2.1<=n/2/\x.2.2<=n-n/2/\x.1.length=x.2.1+x.2.2/\x.1++mgM (cNd col sg) (SA.drop x.2.1) (SB.drop x.2.2)=T)
     (fun x=>[(3, .sl (.loc 1) (0+x.2.1) 3 (n/2-x.2.1) none),(4, .sl (.loc 2) (0+x.2.2) 3 (n-n/2-x.2.2) none),(5, .sl (.loc 3) 0 3 x.1.length none)]) (fun x=>[(1, .rows 3 (SA.map (YT col vl))),(2, .rows 3 (SB.map (YT col vl))),(3, .rows 3 (x.1.map (YT col vl)))]) 4 (fun x=>(n/2-x.2.1)+(n-n/2-x.2.2)) ([],0,0) ⟨by simp,by simp,by simp,hT⟩ ?_
    conv=>whnf
    refine⟨by exact GOES.kA h0 [1,2,3],?_⟩;rintro⟨out,p,q⟩ ⟨hp,hq,ho,hr⟩;dsimp only at hp hq ho hr⊢;have ho2:out.length<=2097152:=by omega
    conv=>whnf
    by_cases hpn:p<n/2
    ·have gA:=fun{m:Nat}=>gA (p:=p) (m:=m) (by omega);by_cases hqn:q<n-n/2
     ·have gB:=fun{m:Nat}=>gB (p:=q) (m:=m) (by omega);repeat'((first|(refine ADD.mkH (fun η3 w3 H3=>?_);(have hG3:=fun x hx=>hGn x hx H3.fr);conv=>whnf)|(show DRAWN _ _ _ _ _ _ _;first|refine DRAWN.of (id:=3) Z0 mixed Yn (by kernel_rfl) ?_|refine DRAWN.of (id:=6) Z0 mixed Yo (by kernel_rfl) ?_)|refine ADD.mk (fun _ _=>?_)|refine AD ?_|refine FORK.mk ?_ ?_|(refine CALL.saysW (J8 (SA[p]'(by omega)) (SB[q]'(by omega)) (col (SA[p]'(by omega))) (col (SB[q]'(by omega))) (vl (SA[p]'(by omega))) (vl (SB[q]'(by omega))) (sg (SA[p]'(by omega))) (sg (SB[q]'(by omega))) (hsl _) (hsl _) (hcl _) (hcl _)) (fun η' w' H'=>⟨(let⟨en,h⟩:=hG3 _ (hSAm _ (List.getElem_mem (by omega)));⟨en,h.now H'.fr (fun k h=>h)⟩),(let⟨en,h⟩:=hG3 _ (hSBm _ (List.getElem_mem (by omega)));⟨en,h.now H'.fr (fun k h=>h)⟩)⟩) rfl rfl ?_;conv=>whnf)|(refine NEED.mk (Zj 40 rfl rfl rfl (by simp) (by omega)) ?_;conv=>whnf)|(refine GET.at (gA (by omega)) ?_;conv=>whnf)|(refine GET.at (gB (by omega)) ?_;conv=>whnf)|(refine NEED.mk ⟨by omega,by omega⟩ ?_;conv=>whnf)|refine AU ?_|(refine IW ?_ ?_<;>intro h<;>try(exfalso;omega)))<;>conv=>whnf)
      ·refine⟨(out++ [SA[p]'(by omega)],p+1,q),⟨by dsimp only;omega,by dsimp only;omega,by dsimp only;rw[List.length_append,List.length_singleton];omega,XF (p:=p) (q:=q) (by omega) (.inr ⟨by omega,by unfold cNd;assumption⟩) hr⟩,by dsimp only;omega,?_⟩;dsimp only;conv=>whnf
       exact GOES.kA h0 [1,2,5]
      ·refine⟨(out++ [SB[q]'(by omega)],p,q+1),⟨by dsimp only;omega,by dsimp only;omega,by dsimp only;rw[List.length_append,List.length_singleton];omega,XG (p:=p) (q:=q) (by omega) (.inr ⟨by omega,by unfold cNd;omega⟩) hr⟩,by dsimp only;omega,?_⟩;dsimp only;conv=>whnf
       exact GOES.kA h0 [1,2,5]
     ·repeat'((first|(show DRAWN _ _ _ _ _ _ _;first|refine DRAWN.of (id:=3) Z0 mixed Yn (by kernel_rfl) ?_|refine DRAWN.of (id:=6) Z0 mixed Yo (by kernel_rfl) ?_)|refine ADD.mk (fun _ _=>?_)|refine AD ?_|refine FORK.mk ?_ ?_|(refine NEED.mk (Zj 40 rfl rfl rfl (by simp) (by omega)) ?_;conv=>whnf)|(refine GET.at (gA (by omega)) ?_;conv=>whnf)|(refine NEED.mk ⟨by omega,by omega⟩ ?_;conv=>whnf)|refine AU ?_|(refine IW ?_ ?_<;>intro h<;>try(exfalso;omega)))<;>conv=>whnf)
      refine⟨(out++ [SA[p]'(by omega)],p+1,q),⟨by dsimp only;omega,by dsimp only;omega,by dsimp only;rw[List.length_append,List.length_singleton];omega,XF (p:=p) (q:=q) (by omega) (.inl (by omega)) hr⟩,by dsimp only;omega,?_⟩;dsimp only;conv=>whnf
      exact GOES.kA h0 [1,2,5]
    ·by_cases hqn:q<n-n/2
     ·have gB:=fun{m:Nat}=>gB (p:=q) (m:=m) (by omega);repeat'((first|(show DRAWN _ _ _ _ _ _ _;first|refine DRAWN.of (id:=3) Z0 mixed Yn (by kernel_rfl) ?_|refine DRAWN.of (id:=6) Z0 mixed Yo (by kernel_rfl) ?_)|refine ADD.mk (fun _ _=>?_)|refine AD ?_|refine FORK.mk ?_ ?_|(refine NEED.mk (Zj 40 rfl rfl rfl (by simp) (by omega)) ?_;conv=>whnf)|(refine GET.at (gB (by omega)) ?_;conv=>whnf)|(refine NEED.mk ⟨by omega,by omega⟩ ?_;conv=>whnf)|refine AU ?_|(refine IW ?_ ?_<;>intro h<;>try(exfalso;omega)))<;>conv=>whnf)
      refine⟨(out++ [SB[q]'(by omega)],p,q+1),⟨by dsimp only;omega,by dsimp only;omega,by dsimp only;rw[List.length_append,List.length_singleton];omega,XG (p:=p) (q:=q) (by omega) (.inl (by omega)) hr⟩,by dsimp only;omega,?_⟩;dsimp only;conv=>whnf
      exact GOES.kA h0 [1,2,5]
     ·have hfin:=Z5e (by omega) (by omega) hr;have hon:out.length=n:=by omega
      repeat'((first|(show DRAWN _ _ _ _ _ _ _;first|refine DRAWN.of (id:=3) Z0 mixed Yn (by kernel_rfl) ?_|refine DRAWN.of (id:=6) Z0 mixed Yo (by kernel_rfl) ?_)|refine ADD.mk (fun _ _=>?_)|refine AD ?_|refine FORK.mk ?_ ?_|refine AU ?_|(refine IW ?_ ?_<;>intro h<;>try(exfalso;omega)))<;>conv=>whnf)
      rw[hon,hfin];exact FIN.aA h0 [3] (.sl (.loc 1) 0 3 n none) [(1, .rows 3 (T.map (YT col vl)))] (.inr ⟨by omega,T,hTp,hTs,rfl,rfl,rfl⟩)
open Tryz
def ndC(col:Nat->Int)(sg:Nat->List Qd)(x:Nat):List DC:=[.v (.int .i64 (x:Int)), .v (.int .i64 (col x)), .kid 16 ((sg x).map Zd)]
def ndD(col:Nat->Int)(sg:Nat->List Qd)(l:List Nat):List (List DC):=l.map (ndC col sg)
theorem ZdG{η:Env}{w:World}{i n:Nat}{col:Nat->Int}{sg:Nat->List Qd}{R:List (List SV)}(h:RawIs η w i 3 (ndD col sg (List.range n)) R):∃vl:Nat->Value,R=(List.range n).map (YT col vl)/\∀x,x<n->KidSat η w (vl x) 16 ((sg x).map Zd):=by
 have hD:∀x,x<n->(ndD col sg (List.range n))[x]?=some (ndC col sg x):=fun x hx=>by unfold ndD;rw[List.getElem?_map,List.getElem?_range hx];rfl
 have hx:∀x,x<n->∃v,R[x]?=some [.int .i64 (x:Int), .int .i64 (col x), .val v]/\KidSat η w v 16 ((sg x).map Zd):=fun x hx=>by
  obtain⟨r1,a1,a2⟩:=h.cv x 0 _ _ (hD x hx) rfl;obtain⟨r2,b1,b2⟩:=h.cv x 1 _ _ (hD x hx) rfl;obtain⟨r3,v,c1,c2,c3⟩:=h.ck x 2 _ _ _ (hD x hx) rfl;rw[a1]at b1 c1;injection b1 with b1;injection c1 with c1;subst b1 c1
  have hl:=h.lens x _ _ (hD x hx) a1;refine⟨v,?_,c3⟩;rw[a1]
  match r1,hl,a2,b2,c2 with
  | [p,q,r],_,a2,b2,c2=>
    simp at a2 b2 c2;rw[a2,b2,c2]
 refine⟨fun x=>match R[x]? with|some [_,_, .val v]=>v|_=>undef,?_,fun x hxn=>?_⟩
 ·apply List.ext_getElem?;intro x;by_cases hxn:x<n
  ·obtain⟨v,h1,_⟩:=hx x hxn;rw[List.getElem?_map,List.getElem?_range hxn,h1];simp only[Option.map_some,YT,h1]
  ·rw[List.getElem?_eq_none (by rw[h.len];simp[ndD];omega),List.getElem?_eq_none (by simp;omega)]
 ·obtain⟨v,h1,h2⟩:=hx x hxn;simp only[h1];exact h2
theorem CALL.nodes{M:Mx}{O:Hps}{nx:Nat}{K:SV->Hps->Nat->Prop}(hP:M.P=prog)(hT:M.C.T=tab){i n:Nat}{col:Nat->Int}{sg:Nat->List Qd}(hsl:∀x,(sg x).length<=1152921504606846976)(hcl:∀x,0<=col x/\col x<1048576)(hpre:Pre (cNd col sg))(hn:n<=1048576)
 (hi:lkp i O=some (.deep false 3 (ndD col sg (List.range n)))) (hin:i<nx) {n1:Nat} (hn1:n1=nx+1) (hK1:n<2->K (.sl (.loc i) 0 3 n none) O nx)
 (hK2:2<=n->∀o:List Nat,o.Perm (List.range n)->(o.Pairwise fun a b=>cNd col sg a b<=0)->K (.sl (.loc nx) 0 3 n none) ((nx, .deep false 3 (ndD col sg o))::delK i O) n1):
 CALL M 67 [.sl (.loc i) 0 3 n none] O nx K:=by
 subst hn1;refine⟨fun η w vs H hd=>?_⟩;obtain⟨R,hR⟩:=Zdy (H.own.1 i _ hi).1;obtain⟨vl,rfl,hks⟩:=ZdG hR;have hG:∀x∈List.range n,∃en,LentIn w (vl x) 16 ((sg x).map Zd) en:=fun x hx=>Zal (hks x (List.mem_range.1 hx)) (Xb _);have hdo:=Z9h col vl sg hsl hcl hpre (List.range n) (by simpa using hn) n n 0 (Nat.le_refl _) (by simp);rw[List.drop_zero,List.take_of_length_le (by simp)]at hdo;have hci:∀j,Zi [i] nx j=if j=0 then i else nx+(j-1):=fun j=>by cases j<;>simp[Zi]
 have hc:CALL (Z4u M O η w i 3 ((List.range n).map (YT col vl))) 67 [.sl (.loc i) 0 3 n none] [] nx (fun r' O' nx'=>(n<2/\r'= .sl (.loc i) 0 3 n none/\O'=[]/\nx'=nx)\/
  (2<=n/\∃o:List Nat,o.Perm (List.range n)/\(o.Pairwise fun a b=>cNd col sg a b<=0)/\r'= .sl (.loc nx) 0 3 n none/\O'=[(nx, .rows 3 (o.map (YT col vl)))]/\nx'=nx+1)):=by
  refine CALL.ofW (G:=fun w=> ∀x∈List.range n,∃en,LentIn w (vl x) 16 ((sg x).map Zd) en) [i] (by show DoesW _ M.P M.C.T _ _ _ _ _ _;rw[hP,hT];exact hdo) (fun η' w' H' x hx=>by obtain⟨en,h⟩:=hG x hx;exact⟨en,h.now H'.fr (fun k h=>h)⟩) rfl (fun j hj=>by simp at hj;omega) rfl rfl (fun p hp=>by cases hp) (fun j hj=>by cases hj) (fun p hp=>by
   obtain rfl:=List.mem_singleton.1 hp;refine⟨by show 0<1;omega,?_,YA _ (h:= .rows _ _) (Uw col vl _),by simp[Za]⟩;rw[Zw _ (h:= .rows _ _) (Uw col vl _)]
   simp[Yp,hci,Z4u,lkS,lkpB,WU,lkp]) ?_
  rintro r O' nx' (⟨g1,rfl,rfl,rfl⟩|⟨g1,o,po,so,rfl,rfl,rfl⟩)
  ·exact .inl ⟨g1,by simp[ren,renB,hci],by simp[renO,ZV],by simp⟩
  ·refine .inr ⟨g1,o,po,so,by simp[ren,renB,hci],?_,by simp⟩;simp only[renO,Za,ZV,List.append_nil,hci];rw[Zw _ (h:= .rows _ _) (Uw col vl _)];simp
 refine(hc.out η w vs (H.raw hR.sat) hd).mono fun v w' ⟨r',O',nx',η',k1,k2,k3,k4⟩=>?_;rcases k4 with⟨g1,rfl,rfl,rfl⟩|⟨g1,o,po,so,rfl,rfl,rfl⟩
 ·have e:η'=η:=(k1.eq_of_length (by rw[k2.len,H.len])).symm;subst e;exact⟨_,O,_,_,List.prefix_rfl,H.grewQ k2.fr,k3,hK1 g1⟩
 ·obtain⟨t,rfl⟩:=k1;have hl:=k2.len;rw[List.length_append,H.len]at hl;obtain⟨y,rfl⟩:∃y,t=[y]:=List.length_eq_one_iff.1 (by omega);obtain⟨q1,q2⟩:=k2.own.1 nx (.rows 3 (o.map (YT col vl))) (by rw[Z6,if_pos rfl])
  have hget:(η++ [y]).get (.loc nx)=some y:=by
   show(η++ [y])[nx]?=_
   rw[List.getElem?_append_right (by rw[H.len];omega),H.len,Nat.sub_self];rfl
  cases y with
  |none=>
   exfalso;simp only[HpSat]at q1;rcases q1 with⟨_,q3⟩|⟨e,_,_,_,q3,_⟩
   ·have:=po.length_eq;rw[List.length_range]at this;have h0:o=[]:=by simpa using q3
    rw[h0]at this;simp at this;omega
   ·rw[hget]at q3;cases q3
  |some x=>
   have hx:w.heap.size<=x.g:=(q2 x.g (feet.own hget)).elim (fun h=>h.elim) id;have hon:o.Nodup:=po.nodup_iff.2 List.nodup_range;have hor:∀r (h:r<o.length),o[r]<n:=fun r h=>List.mem_range.1 (po.mem_iff.1 (List.getElem_mem h));refine⟨_,_,nx+1,_,List.prefix_append _ _,H.relaid (D':=ndD col sg o) (sel:=fun r=>o.getD r 0) hi k2.fr hx q1 (by simp[ndD]) ?_ ?_ ?_ ?_ ?_,k3,hK2 g1 o po so⟩
   ·intro r row hr;unfold ndD at hr⊢;rw[List.getElem?_map]at hr;obtain⟨y,h1,rfl⟩:=Option.map_eq_some_iff.1 hr;obtain⟨h2,h3⟩:=List.getElem?_eq_some_iff.1 h1;have h4:o.getD r 0=y:=by rw[List.getD_eq_getElem?_getD,h1];rfl
    rw[h4,List.getElem?_map,List.getElem?_range (h3▸hor r h2)];rfl
   ·intro r r' h1 h2 h3;have e1:r<o.length:=by simpa[ndD]using h1
    have e2:r'<o.length:=by simpa[ndD]using h2
    simp only[List.getD_eq_getElem?_getD,List.getElem?_eq_getElem e1,List.getElem?_eq_getElem e2,Option.getD_some]at h3;exact(List.getElem_inj hon).1 h3
   ·intro r c row sv hr hc;unfold ndD at hr;rw[List.getElem?_map]at hr;obtain⟨y,h1,rfl⟩:=Option.map_eq_some_iff.1 hr;refine⟨YT col vl y,by rw[List.getElem?_map,h1];rfl,?_⟩
    match c,hc with
    |0,hc=>simp[ndC]at hc;simp[YT,hc]
    |1,hc=>simp[ndC]at hc;simp[YT,hc]
    |2,hc=>simp[ndC]at hc
    |c+3,hc=>simp[ndC]at hc
   ·intro r c row es' rows hr hc;unfold ndD at hr;rw[List.getElem?_map]at hr;obtain⟨y,h1,rfl⟩:=Option.map_eq_some_iff.1 hr;obtain⟨h2,h3⟩:=List.getElem?_eq_some_iff.1 h1;have hy:y<n:=h3▸hor r h2;have h4:o.getD r 0=y:=by rw[List.getD_eq_getElem?_getD,h1];rfl
    have hc2:c=2:=by
     match c,hc with
     |0,hc=>simp[ndC]at hc
     |1,hc=>simp[ndC]at hc
     |2,_=>rfl
     |c+3,hc=>simp[ndC]at hc
    subst hc2;have hs:=hR.sat;simp only[HpSat]at hs;rcases hs with⟨_,hs⟩|⟨e,arr,Tt,fz,g2,g3,_,g5⟩
    ·have:(List.range n).map (YT col vl)=[]:=hs;have hlz:=congrArg List.length this;simp at hlz;omega
    ·obtain⟨_,g6⟩:=g5 y (YT col vl y) (by rw[List.getElem?_map,List.getElem?_range hy];rfl);obtain⟨u,g7,_,g8⟩:=g6 2 (.val (vl y)) rfl;simp only[Den]at g8;have hb:=(((H.own.1 i _ hi).1.deep_ent).2.1 e g2).1;refine⟨YT col vl y,vl y,e,_,by rw[List.getElem?_map,h1];rfl,rfl,g2,g3,?_⟩;simp only[ZF];rw[hb,Nat.zero_add]at g7;rw[h4,g7,g8.1]
   ·intro r row rw1 h1 h2;unfold ndD at h1;rw[List.getElem?_map]at h1 h2;obtain⟨y,_,rfl⟩:=Option.map_eq_some_iff.1 h1;obtain⟨y2,_,rfl⟩:=Option.map_eq_some_iff.1 h2
    rfl
end Go.Proofs.YtlcbipfmodcedaaGreatDoor
