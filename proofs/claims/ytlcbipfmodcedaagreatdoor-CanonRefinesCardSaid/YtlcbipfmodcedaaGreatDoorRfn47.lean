/- Part 47: RCan11, LawCan. Conditions: as each part says. -/
import Derived.Test.YtlcbipfmodcedaaGreatDoorRfn44
import Derived.Test.YtlcbipfmodcedaaGreatDoorRfn46
set_option linter.unusedVariables false
set_option linter.unusedSimpArgs false
set_option maxRecDepth 20000
set_option maxHeartbeats 8000000
namespace Go.Proofs.YtlcbipfmodcedaaGreatDoor
open Go.Sx Go.Our Go.Lib
open Tryz
def clsT(A:List LB)(F:List Int)(k:Int)(i:Nat):List LB:=(((F.zip A).take i).filter fun p=>decide (p.1=k)).map Prod.snd
theorem Zf8{A:List LB}{F:List Int}(k:Int)(h:F.length=A.length):clsT A F k A.length=clsL A F k:=by
 unfold clsT clsL;rw[List.take_of_length_le (by rw[List.length_zip];omega)]
theorem ZdW{A:List LB}{F:List Int}{k:Int}{i:Nat}(h:F.length=A.length)(hi:i<A.length):clsT A F k (i+1)=clsT A F k i++if F[i]=k then [A[i]]else []:=by
 unfold clsT;rw[List.take_succ_eq_append_getElem (show i< (F.zip A).length by rw[List.length_zip];omega),List.filter_append,List.map_append,List.getElem_zip];congr 1;by_cases e:F[i]=k
 ·simp[e]
 ·simp[e]
theorem Zf9(A:List LB)(F:List Int)(k:Int)(i:Nat):(clsT A F k i).length<=i:=by
 unfold clsT;rw[List.length_map];refine Nat.le_trans (List.length_filter_le ..) ?_;rw[List.length_take];omega
theorem Zh2(L:List LB)(x:LB):List.take L.length (L.map Z8)++List.take 1 (List.drop 0 [[SV.str x]])=(L++ [x]).map Z8:=by
 rw[List.take_of_length_le (by simp)];simp[Z8]
theorem Zfa(V:List (List LB))(L:List LB)(d:DC){r n:Nat}(hr:r=V.length)(hn:n=L.length):setC (lbD V++ [[d]]) r 0 (.kid 1 ((L.map Z8).take n))=lbD (V++ [L]):=ZdV V L d hr (by simpa[X7]using hn)
def Zh3(l:List Qd):SV->Hps->Nat->Prop:=fun r O nx=>
 (valE l≠0/\r= .tup [.val (.slice none 0 0), .int .i64 (valE l)]/\O=[]/\nx=1)\/
 (valE l=0/\∃F,Refs (Y1 l) l (List.replicate (Y1 l).length 0) F/\r= .tup [.sl (.loc 1) 0 1 (Xc (Y1 l) F (Y1 l).length).length none, .int .i64 0]/\
   O=[(1, .deep false 1 (lbD (Xc (Y1 l) F (Y1 l).length)))]/\nx=2)
theorem val0{l:List Qd}(h:valE l=0):(Yb l).2=0/\(Y1 l).length<=4096:=by
 unfold valE at h;split at h
 ·omega
 ·rename_i h2;exact⟨h,Nat.le_of_not_lt fun h3=>h2 ⟨h,h3⟩⟩
theorem Z8d(l z:List Qd)(lim:Option Nat)(hl:UF l)(ql:Z95 l)(hz:(l++z).length<=1152921504606846976):
 Does prog tab 11 1 [.sl (.loc 0) 0 16 l.length lim] [] [(0, .rows 16 ((l++z).map Zd))] (Zh3 l):=by
 have hv:=Z6h l z lim hl ql hz;have hnd:(Y1 l).Nodup:=V9 triL (J1 triL _);have hmem:∀x∈ZR l,x∈Y1 l:=fun x hx=>(Ul _ _).2 hx;refine Does.enter Z0 call11 func11 rfl 62 rfl rfl [.tmp 2, .tmp 3] rfl ?_;intro w0 F η0 h0;conv=>whnf
 repeat'((first|refine AU ?_|(refine IW ?_ ?_<;>intro h<;>try(exfalso;omega)))<;>conv=>whnf)
 refine CALL.aA [0] (hv) ?_;rintro r O nx ⟨rfl,rfl,rfl⟩;by_cases he:valE l=0
 rotate_left
 ·conv=>whnf
  repeat'((first|refine AU ?_|(refine IW ?_ ?_<;>intro h<;>try(exfalso;omega)))<;>conv=>whnf)
  exact FIN.aA h0 [] (.tup [.val (.slice none 0 0), .int .i64 (valE l)]) [] (.inl ⟨he,rfl,rfl,rfl⟩)
 obtain⟨hv0,hb⟩:=val0 he;have hl1:=(Z1m hv0).2;have hnew:=ZdF l z lim hl hl1 hb hz;conv=>whnf
 repeat'((first|refine AU ?_|(refine IW ?_ ?_<;>intro h<;>try(exfalso;omega)))<;>conv=>whnf)
 refine CALL.aA [0] (hnew) ?_;rintro r O nx ⟨rfl,rfl,rfl⟩;obtain⟨A,hA⟩:∃A,A=Y1 l:=⟨_,rfl⟩;rw[<-hA]at hnd hb hnew⊢;have hOK:CanOK A l (List.replicate A.length 0):=⟨by simp,hb,hl1,hnd,fun s hs=>hA▸hmem s hs,fun c hc=>by rw[List.eq_of_mem_replicate hc];omega⟩;have hpk:∀q∈l, ¬q.p.k=2:=fun q hq=>by have:=(Z97 (Z7R hv0 q hq)).2.2.2.2;omega
 have hR:=Z6s A l z lim none (List.replicate A.length 0) hOK hpk hz;have hrp:List.replicate A.length [SV.int .i64 0]=(List.replicate A.length (0:Int)).map Zk:=by rw[List.map_replicate];rfl
 conv=>whnf
 repeat'((first|(refine NEED.mk (Ur 8 rfl (by omega) (by omega) (by omega) (by omega)) ?_;conv=>whnf)|refine AU ?_|(refine IW ?_ ?_<;>intro h<;>try(exfalso;omega)))<;>conv=>whnf)
 rw[Int.toNat_natCast,hrp];refine CALL.aA [1,0,3,4,5,2] (hR) ?_;rintro r O nx ⟨F,hF,rfl,rfl,rfl⟩;obtain⟨hFl,hFr⟩:=hF.ok;rw[List.length_replicate]at hFl hFr;conv=>whnf
 repeat'((first|refine AU ?_|(refine IW ?_ ?_<;>intro h<;>try(exfalso;omega)))<;>conv=>whnf)
 refine LOOP.nil 7 1 rfl ?_;refine GHO.loop (GHO.deepen 7 (lbD []) rfl (Z7V 0)) ?_;refine LOOP.gok Z0 [5,6] [] (X:=Nat) (fun k=>k<=A.length) (fun k=>[(7, .sl (.loc 7) 0 1 (Xc A F k).length none),(8, .int .i64 (k:Int))]) (fun k=>[(1,rBx l.length lim A.length),(2, .rows 1 (A.map Z8)),(6, .rows 1 (F.map Zk)),(7, .deep false 1 (lbD (Xc A F k)))]) 8 (fun k=>A.length-k) 0 (by omega) ?_;conv=>whnf
 refine⟨by exact GOES.kA h0 [1,2,3,4,5,6,7],?_⟩;intro k hk;have hgl:=Z48 A F k;have hgs:=Z5h A F k;conv=>whnf
 by_cases hkA:k<A.length
 ·repeat'((first|refine AU ?_|(refine IW ?_ ?_<;>intro h<;>try(exfalso;omega)))<;>conv=>whnf)
  refine LOOP.nil 9 1 rfl ?_;refine LOOP.gok Z0 [5,6,7,8] [] (X:=Nat) (fun i=>i<=A.length) (fun i=>[(10, .int .i64 (i:Int)),(9, .sl (.loc 8) 0 1 (clsT A F (k:Int) i).length none)]) (fun i=>[(1,rBx l.length lim A.length),(2, .rows 1 (A.map Z8)),(6, .rows 1 (F.map Zk)),(7, .deep false 1 (lbD (Xc A F k))),(8, .rows 1 ((clsT A F (k:Int) i).map Z8))]) 9 (fun i=>A.length-i) 0 (by omega) ?_;conv=>whnf
  refine⟨by exact GOES.kA h0 [1,2,3,4,5,6,7,8],?_⟩;intro i hi;have hcl:=Zf9 A F (k:Int) i;conv=>whnf
  by_cases hil:i<A.length
  ·have hs:=ZdW (k:=(k:Int)) hFl hil;have gF:∀{m:Nat},m=i->(F.map Zk)[m]?=some (Zk (F[i]'(by omega))):=fun e=>by subst e;rw[List.getElem?_map,List.getElem?_eq_getElem (by omega)];rfl
   have gA:∀{m:Nat},m=i->(A.map Z8)[m]?=some (Z8 A[i]):=fun e=>by subst e;rw[List.getElem?_map,List.getElem?_eq_getElem hil];rfl
   repeat'((first|(refine GET.at (gF (by omega)) ?_;conv=>whnf)|(refine GET.at (gA (by omega)) ?_;conv=>whnf)|(refine NEED.mk (Zj 16 rfl rfl rfl (by simp) (by omega)) ?_;conv=>whnf)|refine AU ?_|(refine IW ?_ ?_<;>intro h<;>try(exfalso;omega)))<;>conv=>whnf)
   ·rw[if_pos (by assumption)]at hs;refine⟨i+1,by omega,by omega,?_⟩;rw[Zh2,hs,List.length_append,List.length_singleton];conv=>whnf
    exact GOES.kA h0 [1,2,3,4,5,6,7,10]
   ·rw[if_neg (by assumption),List.append_nil]at hs;refine⟨i+1,by omega,by omega,?_⟩;rw[hs];conv=>whnf
    exact GOES.kA h0 [1,2,3,4,5,6,7,8]
  ·have hie:i=A.length:=by omega
   have hca:=Zf8 (F:=F) (k:Int) hFl;rw[<-hie]at hca;rw[hca]at hcl⊢;obtain⟨L,hL⟩:∃L,L=clsL A F (k:Int):=⟨_,rfl⟩;rw[<-hL]at hcl hgs⊢;repeat'((first|(refine NEED.mk (Zj 24 rfl rfl rfl (by simp[lbD]) (by omega)) ?_;conv=>whnf)|refine AU ?_|(refine IW ?_ ?_<;>intro h<;>try(exfalso;omega)))<;>conv=>whnf)
   ·have hne:¬L=[]:=fun e=>by subst e;simp at*
    rw[if_neg hne]at hgs;refine⟨k+1,by omega,by omega,?_⟩;rw[Zaw,hgs,List.length_append,List.length_singleton];conv=>whnf
    refine(GHO.goes (GHO.putk 10 (Xc A F k).length 0 8 rfl (Zax _ _) rfl rfl (by simp) (by decide))).trans ?_;rw[Zfa _ L _ rfl rfl];exact GOES.kA h0 [1,2,3,4,5,6,10]
   ·have he:L=[]:=by refine List.length_eq_zero_iff.1 ?_;omega
    rw[if_pos he,List.append_nil]at hgs;refine⟨k+1,by omega,by omega,?_⟩;rw[hgs];conv=>whnf
    exact GOES.kA h0 [1,2,3,4,5,6,7]
 ·have hke:k=A.length:=by omega
  subst hke;repeat'((first|refine AU ?_|(refine IW ?_ ?_<;>intro h<;>try(exfalso;omega)))<;>conv=>whnf)
  exact FIN.aA h0 [7] (.tup [.sl (.loc 1) 0 1 (Xc A F A.length).length none, .int .i64 0]) [(1, .deep false 1 (lbD (Xc A F A.length)))] (.inr ⟨he,F,by rw[<-hA];exact hF,by rw[<-hA],by rw[<-hA],rfl⟩)
end Go.Proofs.YtlcbipfmodcedaaGreatDoor
namespace Go.Proofs.YtlcbipfmodcedaaGreatDoor
open Go.Sx Go.Our Go.Lib
open Tryz
def Z8e:Plan:=(Zu [(0,1),(1,1),(2,1),(5,1),(6,1),(7,1),(3,2),(4,1),(8,2),(9,1),(10,1)])
def Z8f:Plan:=(Zu [(0,1),(1,1),(2,1),(4,1),(7,1),(8,1),(9,1),(11,1),(3,2),(5,1),(6,2),(10,2),(12,1),(13,2),(14,1)])
theorem Zay{out:List (List LB)}{i k n:Nat}{sv:SV}(h:i<out.length)(hk:k=i)(hn:n=out[i].length):setC (setC (lbD out) k 0 (.v sv)) i 0 (.kid 1 ((out[i].map Z8).take n))=lbD out:=ZdA (es:=1) (f:=Z8) h hk hn
theorem ZbJ{A:List LB}{F:List Int}{n:Nat}{L:List LB}(h:L∈Xc A F n):L.length<=A.length:=by
 unfold Xc at h;obtain⟨k,_,rfl⟩:=List.mem_map.1 (List.mem_filter.1 h).1;exact Zig ..
theorem Z9m(l:List Qd)(hl:UF l)(ql:Z95 l):Does prog tab 3 1 [.sl (.loc 0) 0 16 l.length none] [] [(0, .rows 16 (l.map Zd))] (ValK 1 (.bool true)):=by
 have hq:=hl;unfold UF at hq;have hR:=Z9l l [YV,YV] none hl ql (by simp;omega);have hW:=Z8d l [] none hl ql (by simp;omega);have hK:=ZcY l hl;rw[List.append_nil]at hW;refine Does.enter Z0 call3 func3 rfl 79 rfl rfl [.tmp 2] rfl ?_;intro w0 F η0 h0;conv=>whnf
 repeat'((first|refine AU ?_|(refine IW ?_ ?_<;>intro h<;>try(exfalso;omega)))<;>conv=>whnf)
 refine CALL.aA [0] (ZaZ l hl) ?_;rintro r O nx ⟨rfl,rfl,rfl⟩;conv=>whnf
 repeat'((first|refine AU ?_|(refine IW ?_ ?_<;>intro h<;>try(exfalso;omega)))<;>conv=>whnf)
 refine CALL.aA [1] (hR) ?_;rintro r O nx (⟨hv,rfl,rfl,rfl⟩|⟨hv,hb,rfl,rfl,rfl⟩|⟨hv,hb,F,hF,rfl,rfl,rfl⟩)
 ·have hE:valE l=(Yb l).2:=by unfold valE;rw[if_neg (by rintro⟨h1,_⟩;exact hv h1)]
  conv=>whnf
  repeat'((first|refine AU ?_|(refine IW ?_ ?_<;>intro h<;>try(exfalso;omega)))<;>conv=>whnf)
  refine CALL.aA [0] (hW) ?_;rintro r O nx (⟨_,rfl,rfl,rfl⟩|⟨h1,_⟩)
  rotate_left
  ·omega
  rw[hE];conv=>whnf
  repeat'((first|refine AU ?_|(refine IW ?_ ?_<;>intro h<;>try(exfalso;omega)))<;>conv=>whnf)
  refine CALL.aA [0,1] (hK) ?_;rintro r O nx ⟨rfl,rfl,rfl⟩;conv=>whnf
  repeat'((first|refine AU ?_|(refine IW ?_ ?_<;>intro h<;>try(exfalso;omega)))<;>conv=>whnf)
  refine LOOP.once Z0 ?_;conv=>whnf
  repeat'((first|refine AU ?_|(refine IW ?_ ?_<;>intro h<;>try(exfalso;omega)))<;>conv=>whnf)
  exact FIN.valueK h0 rfl rfl
 ·have hE:valE l=2:=by unfold valE;rw[if_pos ⟨hv,hb⟩]
  conv=>whnf
  repeat'((first|refine AU ?_|(refine IW ?_ ?_<;>intro h<;>try(exfalso;omega)))<;>conv=>whnf)
  refine CALL.aA [0] (hW) ?_;rintro r O nx (⟨_,rfl,rfl,rfl⟩|⟨h1,_⟩)
  rotate_left
  ·omega
  rw[hE];conv=>whnf
  repeat'((first|refine AU ?_|(refine IW ?_ ?_<;>intro h<;>try(exfalso;omega)))<;>conv=>whnf)
  refine CALL.aA [0,1] (hK) ?_;rintro r O nx ⟨rfl,rfl,rfl⟩;conv=>whnf
  repeat'((first|refine AU ?_|(refine IW ?_ ?_<;>intro h<;>try(exfalso;omega)))<;>conv=>whnf)
  refine LOOP.once Z0 ?_;conv=>whnf
  repeat'((first|refine AU ?_|(refine IW ?_ ?_<;>intro h<;>try(exfalso;omega)))<;>conv=>whnf)
  exact FIN.valueK h0 rfl rfl
 have hE:valE l=0:=by unfold valE;rw[if_neg (by rintro⟨_,h2⟩;omega),hv]
 conv=>whnf
 repeat'((first|refine AU ?_|(refine IW ?_ ?_<;>intro h<;>try(exfalso;omega)))<;>conv=>whnf)
 refine CALL.aA [0] (hW) ?_;rintro r O nx (⟨h1,_⟩|⟨_,F',hF',rfl,rfl,rfl⟩)
 ·exact(h1 hE).elim
 obtain rfl:F'=F:=hF.det hF';have hgl:=Z48 (Y1 l) F' (Y1 l).length;have hge:∀L∈Xc (Y1 l) F' (Y1 l).length,L.length<=4096:=fun L hL=>Nat.le_trans (ZbJ hL) hb;generalize Xc (Y1 l) F' (Y1 l).length=G at hgl hge⊢;conv=>whnf
 repeat'((first|refine AU ?_|(refine IW ?_ ?_<;>intro h<;>try(exfalso;omega)))<;>conv=>whnf)
 refine CALL.aA [0,1] (hK) ?_;rintro r O nx ⟨rfl,rfl,rfl⟩;conv=>whnf
 repeat'((first|refine AU ?_|(refine IW ?_ ?_<;>intro h<;>try(exfalso;omega)))<;>conv=>whnf)
 refine LOOP.gok Z0 [4,6] [] (X:=Nat) (fun i=>i<=G.length) (fun i=>[(8, .int .i64 (i:Int))]) (fun i=>[(2, .deep false 1 (lbD G)),(3, .deep false 1 (lbD G))]) 4 (fun i=>G.length-i) 0 (by omega) ?_;conv=>whnf
 refine⟨by exact GOES.kA h0 [1,2,3],?_⟩;intro i hi;conv=>whnf
 by_cases hil:i<G.length
 ·have hml:(G[i].map Z8).length=G[i].length:=List.length_map ..;have hg4:=hge _ (List.getElem_mem hil);repeat'((first|refine AU ?_|(refine IW ?_ ?_<;>intro h<;>try(exfalso;omega)))<;>conv=>whnf)
  refine GHO.drawn (GHO.trans (GHO.take 2 i 0 rfl (Zak hil) rfl) (GHO.take 3 i 0 rfl (Zak hil) rfl)) ?_;rw[hml];obtain⟨L,hL⟩:∃L,L=G[i]:=⟨_,rfl⟩;rw[<-hL]at hg4 hml⊢;have gD:∀{sv:SV} {k:Nat},k=i->(Zs (setC (lbD G) i 0 (.v sv)))[k]?=some [sv]:=fun e=>by subst e;exact YF (Zak hil)
  have cD:∀{sv:SV} {k:Nat},k=i->Z0T (setC (lbD G) i 0 (.v sv)) k 0=some (i, .v sv):=fun e=>by subst e;exact YG (Zak hil)
  repeat'((first|(show DRAWN _ _ _ _ _ _ _;first|refine DRAWN.of (id:=9) Z0 mixed Z8e (by kernel_rfl) ?_|refine DRAWN.of (id:=14) Z0 mixed Z8f (by kernel_rfl) ?_)|refine ADD.mk (fun _ _=>?_)|refine AD ?_|refine FORK.mk ?_ ?_|(refine GET.at (gD (by omega)) ?_;conv=>whnf)|refine AU ?_|(refine IW ?_ ?_<;>intro h<;>try(exfalso;omega)))<;>conv=>whnf)
  refine LOOP.gok Z0 [4,6,8] [] (X:=Nat) (fun k=>k<=L.length) (fun k=>[(9, .int .i64 (k:Int))]) (fun k=>[(2, .deep false 1 (setC (lbD G) i 0 (.v (.sl (.loc 4) 0 1 L.length none)))),(3, .deep false 1 (setC (lbD G) i 0 (.v (.sl (.loc 5) 0 1 L.length none)))),(4, .rows 1 (L.map Z8)),(5, .rows 1 (L.map Z8))]) 6 (fun k=>L.length-k) 0 (by omega) ?_;conv=>whnf
  refine⟨by exact GOES.kA h0 [1,2,3,4,5],?_⟩;intro k hk;conv=>whnf
  by_cases hkl:k<L.length
  ·have gL:∀{m:Nat},m=k->(L.map Z8)[m]?=some (Z8 L[k]):=fun e=>by subst e;rw[List.getElem?_map,List.getElem?_eq_getElem hkl];rfl
   repeat'((first|(show DRAWN _ _ _ _ _ _ _;first|refine DRAWN.of (id:=9) Z0 mixed Z8e (by kernel_rfl) ?_|refine DRAWN.of (id:=14) Z0 mixed Z8f (by kernel_rfl) ?_)|refine ADD.mk (fun _ _=>?_)|refine AD ?_|refine FORK.mk ?_ ?_|(refine FINDD.at (cD (by omega)) ?_;conv=>whnf)|(refine GET.at (gD (by omega)) ?_;conv=>whnf)|(refine GET.at (gL (by omega)) ?_;conv=>whnf)|refine AU ?_|(refine IW ?_ ?_<;>intro h<;>try(exfalso;omega)))<;>conv=>whnf)
   refine⟨k+1,by omega,by omega,?_⟩;conv=>whnf
   exact GOES.kA h0 [1,2,3,4,5]
  ·have hke:k=L.length:=by omega
   subst hke;repeat'((first|(refine FINDD.at (cD (by omega)) ?_;conv=>whnf)|refine AU ?_|(refine IW ?_ ?_<;>intro h<;>try(exfalso;omega)))<;>conv=>whnf)
   refine⟨i+1,by omega,by omega,?_⟩;conv=>whnf
   refine GOES.trans (GHO.goes (GHO.trans (GHO.putk 2 i 0 4 rfl (Z0c hil rfl) rfl rfl (by rw[hml];exact Nat.le_refl _) (by decide)) (GHO.putk 3 i 0 5 rfl (Z0c hil rfl) rfl rfl (by rw[hml];exact Nat.le_refl _) (by decide)))) ?_;rw[hL,Zay hil rfl rfl,Zay hil rfl rfl];exact GOES.kA h0 [1,2,3]
 ·repeat'((first|refine AU ?_|(refine IW ?_ ?_<;>intro h<;>try(exfalso;omega)))<;>conv=>whnf)
  exact FIN.valueK h0 rfl rfl
end Go.Proofs.YtlcbipfmodcedaaGreatDoor
