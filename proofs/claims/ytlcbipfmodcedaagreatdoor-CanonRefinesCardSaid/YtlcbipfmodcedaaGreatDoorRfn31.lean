/- Part 31: Can1. Conditions: as each part says. -/
import Derived.Test.YtlcbipfmodcedaaGreatDoorRfn29
import Derived.Test.YtlcbipfmodcedaaGreatDoorRfn30
set_option linter.unusedVariables false
set_option linter.unusedSimpArgs false
set_option maxRecDepth 20000
set_option maxHeartbeats 8000000
namespace Go.Proofs.YtlcbipfmodcedaaGreatDoor
open Go.Sx Go.Our Go.Lib
open Tryz
def ZgM:Plan:=(Zu [(0,1),(1,1),(2,1),(3,1),(4,1),(5,1),(6,1),(7,1),(8,1),(9,1),(10,1),(11,1),(12,1),(13,0)])
def Xw:Plan:=(Zu [(0,1),(1,1),(2,1),(4,1),(5,1),(6,1),(3,2),(7,2),(8,3),(9,1)])
def Xx:Plan:=(Zu [(0,1),(1,1),(2,1),(4,1),(3,2),(5,1),(6,2),(7,1),(8,1),(9,1),(10,1),(11,1),(12,1),(14,1),(17,1),(18,1),(19,1),(21,1),(28,1),(13,2),(15,1),(16,2),(20,2),(22,1),(23,2),(24,1),(25,1),(26,1),(27,2),(29,1),(30,1)])
def Xy:Plan:=(.take 0 1 (.take 1 1 (.take 2 1 (.take 4 1 (.take 5 1 (.take 6 1 (.take 7 1 (.take 9 1 (.take 12 1 (.take 8 2 (.take 10 1 (.take 11 2 (.fork 3 3 13 3 (Zu [(13,3),(14,0),(15,1),(16,0)]) (.fork 3 3 14 0 (Zu [(14,0),(15,1),(16,0)]) (Zu [(3,2),(15,1),(16,0)])))))))))))))))
theorem Z5c(q:Qd):Does prog tab 62 1 [.ptr (.loc 0) 0 0 0] [] [(0, .box (Zd q))]
 (fun r O nx=>r= .arr 1 [[.ptr (.loc 0) 0 0 0],[.ptr (.loc 0) 0 0 4],[.ptr (.loc 0) 0 0 8],[.ptr (.loc 0) 0 0 12]]/\O=[]/\nx=1):=by
 refine Does.enter Z0 call62 func62 rfl 16 rfl rfl [.cell 2 100] rfl ?_;intro w0 F η0 h0;conv=>whnf
 repeat'((first|(show DRAWN _ _ _ _ _ _ _;first|refine DRAWN.of (id:=1) Z0 mixed ZgM (by kernel_rfl) ?_)|refine ADD.mk (fun _ _=>?_)|refine AD ?_|refine FORK.mk ?_ ?_|refine AU ?_|(refine IW ?_ ?_<;>intro h<;>try(exfalso;omega)))<;>conv=>whnf)
 exact FIN.aA h0 [] (.arr 1 [[.ptr (.loc 0) 0 0 0],[.ptr (.loc 0) 0 0 4],[.ptr (.loc 0) 0 0 8],[.ptr (.loc 0) 0 0 12]]) [] ⟨rfl,rfl,rfl⟩
theorem Z8G:∀(k n:Nat),n<10^ (k+1)->(decDigits n).length<=k+1
 |0,n,h=>by rw[decDigits,dif_pos (by simpa using h)];simp
 |k+1,n,h=>by
  rw[decDigits];split
  ·simp
  ·have:=Z8G k (n/10) (by rw[Nat.pow_succ]at h;omega);rw[List.length_append,List.length_singleton];omega
theorem Ut(n:Nat)(hn:n<10000):Does prog tab 135 0 [.int .i64 (n:Int)] [] [] (Val (.str (dig4 n))):=by
 have hi:itoa (n:Int)=decDigits n:=by unfold itoa;rw[if_neg (by omega)];simp
 have hl:=Z8G 3 n (by simpa using hn)
 have hd:List.drop (decDigits n).length ([48,48,48,48]:List UInt8)=List.replicate (4-(decDigits n).length) 48:=by
  rw[show([48,48,48,48]:List UInt8)=List.replicate 4 48 from rfl,List.drop_replicate]
 refine Does.enter Z0 call135 func135 rfl 11 rfl rfl [.tmp 2] rfl ?_;intro w0 F η0 h0;conv=>whnf
 repeat'((first|refine CALL.value (Zbx (n:Int) ⟨by omega,by omega⟩) rfl rfl ?_|(rw[hi];refine NEED.mk ⟨by omega,by show((decDigits n).length:Int)<=(4:Int);omega⟩ ?_;rw[Int.toNat_natCast,show(ByteArray.mk #[48,48,48,48]).data.toList=[48,48,48,48]from rfl,hd];conv=>whnf)|(refine NEED.mk (by rw[List.length_replicate,hi];omega) ?_;conv=>whnf)|refine AU ?_|(refine IW ?_ ?_<;>intro h<;>try(exfalso;omega)))<;>conv=>whnf)
 exact FIN.value h0 rfl rfl
def kRow(l:List Nat):List DC:=[.kid 1 (l.map ZT)]
def inK(I:List (List Nat)):List (List DC):=I.map kRow
theorem ZdB(l:List Nat):Zh (l.map ZT)=true:=Zz _ (fun _=>rfl) l
theorem Zan:∀I:List (List Nat),Zt (inK I)=true
 | []=>rfl
 |l::I=>by simp only[inK,List.map_cons,kRow,Zt,Ys,JL,ZdB,Bool.and_self,Bool.true_and];exact Zan I
instance {I:List (List Nat)}:PlD (inK I):=⟨Zan I⟩
theorem Ya{I:List (List Nat)}{i:Nat}(h:i<I.length):(inK I)[i]?=some (kRow I[i]):=by unfold inK;rw[List.getElem?_map,List.getElem?_eq_getElem h];rfl
theorem ZgN{I:List (List Nat)}{i k:Nat}(h:i<I.length)(hk:k=i):Z0T (inK I) k 0=some (k, .kid 1 (I[i].map ZT)):=by
 subst hk;unfold Z0T;rw[Ya h];rfl
theorem Z5d(n:Nat):Z0I (List.replicate n [SV.val (.slice none 0 0)]) (inK (List.replicate n [])):=by
 refine⟨by simp[inK],fun a row' h=>?_⟩;unfold inK at h;rw[List.map_replicate]at h;obtain⟨ha,hr⟩:=List.getElem?_eq_some_iff.1 h;rw[List.length_replicate]at ha;rw[List.getElem_replicate]at hr;subst hr;refine⟨_,by rw[List.getElem?_replicate,if_pos ha],?_⟩;exact And.intro (.inr ⟨rfl,1,rfl⟩) trivial
theorem Z0P{I:List (List Nat)}{i k n:Nat}{sv:SV}(h:i<I.length)(hk:k=i)(hn:n=I[i].length):setC (setC (inK I) k 0 (.v sv)) i 0 (.kid 1 ((I[i].map ZT).take n))=inK I:=ZdA (es:=1) (f:=ZT) h hk hn
theorem Uu{I:List (List Nat)}{j:Nat}{s:Nat}{sv:SV}{rows:List (List SV)}{k i:Nat}(hn:j<I.length)(hi:i=j)(hr:rows.take k=(I[j]++ [s]).map ZT):
 ((setC (inK I) j 0 (.v sv)).modify i fun row=>row.set 0 (.kid 1 (rows.take k)))=inK (I.modify j (· ++ [s])):=by
 subst hi;show setC _ _ _ _=_
 rw[setC_setC,hr];apply List.ext_getElem?;intro a;rw[Yj];unfold inK;simp only[List.getElem?_map,List.getElem?_modify];by_cases ha:a=i
 ·subst ha;rw[if_pos rfl,List.getElem?_eq_getElem hn];simp[kRow]
 ·rw[if_neg ha];cases I[a]?<;>simp[Ne.symm ha]
def fBx(n:Nat)(lim:Option Nat)(nl:Nat):Hp:= .box [.sl (.loc 0) 0 16 n lim, .sl (.loc 2) 0 1 nl (some nl), .mp (.loc 3), .sl (.loc 4) 0 1 nl none]
def insV(A:List LB)(l:List Qd):List (List Nat):=(List.range A.length).map (atV A l)
def Zia(l:List Qd)(lim:Option Nat):SV->Hps->Nat->Prop:=fun r O nx=>
 ((Yb l).2≠0/\r= .tup [.val (.pointer none), .int .i64 (Yb l).2]/\O=[]/\nx=1)\/
 ((Yb l).2=0/\4096< (Y1 l).length/\r= .tup [.val (.pointer none), .int .i64 2]/\O=[]/\nx=1)\/
 ((Yb l).2=0/\(Y1 l).length<=4096/\r= .tup [.ptr (.loc 1) 0 0 0, .int .i64 0]/\nx=5/\∃j,j+(Y1 l).length<=(ZR l).length/\
   O=[(1,fBx l.length lim (Y1 l).length),(2, .rows 1 ((Y1 l++List.replicate j []).map Z8)),(3, .mp (numT (Xs 0 (Y1 l) (Y1 l).length))),(4, .deep false 1 (inK (insV (Y1 l) l)))])
theorem Uv{α:Type}(L:List α):L=[]\/∃c j,L=c++ [j]:=by
 by_cases h:L=[]
 ·exact .inl h
 ·exact .inr ⟨L.dropLast,L.getLast h,(List.dropLast_concat_getLast h).symm⟩
theorem Zby(l z:List Qd)(lim:Option Nat)(hl:UF l)(ql:Z95 l)(hz:(l++z).length<=1152921504606846976):
 Does prog tab 30 1 [.sl (.loc 0) 0 16 l.length lim] [] [(0, .rows 16 ((l++z).map Zd))] (Zia l lim):=by
 have hv:=Z96 l z lim (by unfold UF at hl;omega) ql;have hbl:=Z8M l z lim hl hz;have hAl:(Y1 l).length<=l.length*4:=Nat.le_trans (Z5H _) (Z2p _ Uo _);have hnd:(Y1 l).Nodup:=V9 triL (J1 triL _);have hmem:∀x∈ZR l,x∈Y1 l:=fun x hx=>(Ul _ _).2 hx;refine Does.enter Z0 call30 func30 rfl 135 rfl rfl [.tmp 2, .tmp 3] rfl ?_;intro w0 F η0 h0;conv=>whnf
 repeat'((first|refine AU ?_|(refine IW ?_ ?_<;>intro h<;>try(exfalso;omega)))<;>conv=>whnf)
 refine CALL.aA [0] (hv) ?_;rintro r O nx ⟨rfl,rfl,rfl⟩;conv=>whnf
 repeat'((first|refine AU ?_|(refine IW ?_ ?_<;>intro h<;>try(exfalso;omega)))<;>conv=>whnf)
 ·exact FIN.aA h0 [] (.tup [.val (.pointer none), .int .i64 (Yb l).2]) [] (.inl ⟨by omega,rfl,rfl,rfl⟩)
 refine CALL.aA [0] (hbl) ?_;rintro r O nx ⟨jj,hjj,rfl,rfl,rfl⟩;have hset:setL Our.cmpL (ZR l)=Y1 l:=rfl;rw[hset]at hjj⊢;conv=>whnf
 repeat'((first|refine AU ?_|(refine IW ?_ ?_<;>intro h<;>try(exfalso;omega)))<;>conv=>whnf)
 ·exact FIN.aA h0 [] (.tup [.val (.pointer none), .int .i64 2]) [] (.inr (.inl ⟨‹_›,by omega,rfl,rfl,rfl⟩))
 have hv0:(Yb l).2=0:= ‹_›;have hA4:(Y1 l).length<=4096:=by omega
 obtain⟨dR,dF⟩:=Z1m hv0;have hfew:l.length<=1048576:=dF;obtain⟨A,hA⟩:∃A,A=Y1 l:=⟨_,rfl⟩;rw[<-hA]at hAl hnd hmem hjj hA4⊢;refine LOOP.gok Z0 [0,6,37,38] [] (X:=Nat) (fun i=>i<=A.length) (fun i=>[(39, .int .i64 (i:Int))]) (fun i=>[(1, .rows 1 ((A++List.replicate jj []).map Z8)),(2, .mp (numT (Xs 0 A i))),(3, .box [.sl (.loc 0) 0 16 l.length lim, .sl (.loc 1) 0 1 A.length (some A.length), .mp (.loc 2), .val (.slice none 0 0)])]) 4 (fun i=>A.length-i) 0 (by omega) ?_;conv=>whnf
 refine⟨by exact GOES.cA h0,?_⟩;intro i hi;conv=>whnf
 by_cases hlt:i<A.length
 ·have hs:=Z6a (b:=0) hlt;rw[Int.zero_add]at hs;have gA:∀{k:Nat},k=i->((A++List.replicate jj []).map Z8)[k]?=some (Z8 A[i]):=fun e=>by subst e;rw[List.getElem?_map,List.getElem?_append_left hlt,List.getElem?_eq_getElem hlt];rfl
  repeat'((first|(refine GET.at (gA (by omega)) ?_;conv=>whnf)|(refine NEED.mk ⟨KT.ok _,Xq KT _ _⟩ ?_;conv=>whnf)|refine AU ?_|(refine IW ?_ ?_<;>intro h<;>try(exfalso;omega)))<;>conv=>whnf)
  first|rw[ZfP,<-hs]|rw[ZfQ,<-hs]
  refine⟨i+1,by omega,by omega,?_⟩;conv=>whnf
  exact GOES.cA h0
 have hie:i=A.length:=by omega
 subst hie;clear hlt;repeat'((first|(refine NEED.mk (Ur 24 rfl (by omega) (by omega) (by omega) (by omega)) ?_;conv=>whnf)|refine AU ?_|(refine IW ?_ ?_<;>intro h<;>try(exfalso;omega)))<;>conv=>whnf)
 refine GHO.loop (GHO.deepen 4 (inK (List.replicate A.length [])) rfl (by rw[Int.toNat_natCast];exact Z5d _)) ?_;rw[Int.toNat_natCast];have hfA:=Zag (b:=0) hnd;refine LOOP.gok Z0 [6,60,61] [] (X:=Nat) (fun k=>k<=l.length) (fun k=>[(62, .int .i64 (k:Int))]) (fun k=>[(1, .rows 1 ((A++List.replicate jj []).map Z8)),(2, .mp (numT (Xs 0 A A.length))),(3, .box [.sl (.loc 0) 0 16 l.length lim, .sl (.loc 1) 0 1 A.length (some A.length), .mp (.loc 2), .sl (.loc 4) 0 1 A.length none]),(4, .deep false 1 (inK ((List.range A.length).map (atK A l k))))]) 5 (fun k=>l.length-k) 0 (by omega) ?_;conv=>whnf
 refine⟨by rw[Z5b];exact GOES.cA h0,?_⟩;intro k hk;conv=>whnf
 by_cases hkl:k<l.length
 ·have gQ:∀{m:Nat},m=k->((l++z).map Zd)[m]?=some (Zd l[k]):=fun e=>by subst e;rw[List.getElem?_map,List.getElem?_append_left hkl,List.getElem?_eq_getElem hkl];rfl
  obtain⟨q,hq⟩:∃q,q=l[k]:=⟨_,rfl⟩;rw[<-hq]at gQ;have hT:=Z5c q;have hqA:∀s∈Zv q,s∈A:=fun s hs=>hmem s (List.mem_flatMap.2 ⟨q,by rw[hq];exact List.getElem_mem hkl,hs⟩);repeat'((first|(refine GET.at (gQ (by omega)) ?_;conv=>whnf)|refine AU ?_|(refine IW ?_ ?_<;>intro h<;>try(exfalso;omega)))<;>conv=>whnf)
  refine CALL.aA [5] (hT) ?_;rintro r O nx ⟨rfl,rfl,rfl⟩;conv=>whnf
  repeat'((first|refine AU ?_|(refine IW ?_ ?_<;>intro h<;>try(exfalso;omega)))<;>conv=>whnf)
  rw[<-Z7W];refine LOOP.gok Z0 [6,9,60,61,62,67] [] (X:=Nat) (fun x=>x<=4) (fun x=>[(68, .int .i64 (x:Int))]) (fun x=>[(1, .rows 1 ((A++List.replicate jj []).map Z8)),(2, .mp (numT (Xs 0 A A.length))),(3, .box [.sl (.loc 0) 0 16 l.length lim, .sl (.loc 1) 0 1 A.length (some A.length), .mp (.loc 2), .sl (.loc 4) 0 1 A.length none]),(4, .deep false 1 (inK (YJ A l k (((VW q).take x).flatMap Zx)))),(5, .box (Zd q))]) 6 (fun x=>4-x) 0 (by omega) ?_;conv=>whnf
  refine⟨by exact GOES.cA h0,?_⟩;intro x hx4;conv=>whnf
  by_cases hx:x<4
  ·have hxc:x=0\/x=1\/x=2\/x=3:=by omega
   rcases hxc with rfl|rfl|rfl|rfl
   ·have hS:((VW q).take (0+1)).flatMap Zx=((VW q).take 0).flatMap Zx++Zx q.s:=by simp[VW]
    repeat'((first|(refine NEED.mk ⟨by omega,by omega,rfl⟩ ?_;conv=>whnf)|(refine GET.at (row:=[.ptr (.loc 5) 0 0 0]) rfl ?_;conv=>whnf)|(show DRAWN _ _ _ _ _ _ _;first|refine DRAWN.of (id:=20) Z0 mixed Xw (by kernel_rfl) ?_|refine DRAWN.of (id:=21) Z0 mixed Xx (by kernel_rfl) ?_|refine DRAWN.of (id:=22) Z0 mixed Xy (by kernel_rfl) ?_)|refine ADD.mk (fun _ _=>?_)|refine AD ?_|refine FORK.mk ?_ ?_|refine AU ?_|(refine IW ?_ ?_<;>intro h<;>try(exfalso;omega)))<;>conv=>whnf)
    ·refine⟨0+1,by omega,by omega,?_⟩;rw[hS,show Zx q.s=[]from if_neg h,List.append_nil];conv=>whnf
     exact GOES.cA h0
    have h2:q.s.k=2:=h;have hbt:Zx q.s=[(q.s).t]:=if_pos h2;have hsA:(q.s).t∈A:=hqA _ (by unfold Zv;simp[hbt]);rw[hbt]at hS;have hn0A:=List.idxOf_lt_length_of_mem hsA;have hAn:A[A.idxOf (q.s).t]=(q.s).t:=List.getElem_idxOf hn0A;have hix:ixF 0 A (q.s).t=((A.idxOf (q.s).t:Nat):Int):=by unfold ixF;rw[if_pos hsA];omega
    generalize A.idxOf (q.s).t=n0 at hn0A hAn hix;obtain⟨T,hTd⟩:∃T,T=((VW q).take 0).flatMap Zx:=⟨_,rfl⟩;rw[<-hTd]at hS⊢;refine NEED.mk ⟨KT.ok _,Xq KT intV _⟩ ?_;refine FIND.A KT intV (q.s).t (Xs 0 A A.length) (fun i v hf=>?_) (fun hf=>?_)
    ·have hv:=VM hf;rw[hfA,hix]at hv;subst hv;conv=>whnf
     have hnI:n0< (YJ A l k T).length:=by rw[XB];exact hn0A
     have hPl:(YJ A l k T)[n0].length<=1048577:=by have:=Z0M _ (List.getElem_mem hnI);omega
     refine GHO.drawn (GHO.take 4 n0 0 rfl (Ya hnI) rfl) ?_;rw[show(List.map ZT (YJ A l k T)[n0]).length=(YJ A l k T)[n0].length from List.length_map ..];obtain⟨L,hL⟩:∃L,L=(YJ A l k T)[n0]:=⟨_,rfl⟩;have hlast:=Wu (A:=A) (l:=l) (k:=k) (T:=T) hn0A;rw[<-hL]at hlast hPl⊢;rcases Uv L with hL0|⟨c,j,hL0⟩
     ·have hT2:A[n0]∉T:=fun hm=>by
       obtain⟨c,hc⟩:=hlast.2 hm;rw[hL0]at hc;simp at hc
      have gL:∀{m:Nat},m+1=0->(L.map ZT)[m]?=some []:=fun h=>by omega
      have hLz:L.length=0:=by rw[hL0];rfl
      clear hlast hqA hmem gQ hT hbl hset;repeat'((first|(show DRAWN _ _ _ _ _ _ _;first|refine DRAWN.of (id:=20) Z0 mixed Xw (by kernel_rfl) ?_|refine DRAWN.of (id:=21) Z0 mixed Xx (by kernel_rfl) ?_|refine DRAWN.of (id:=22) Z0 mixed Xy (by kernel_rfl) ?_)|refine ADD.mk (fun _ _=>?_)|refine AD ?_|refine FORK.mk ?_ ?_|(refine GET.at (by rw[Nat.zero_add];exact YF (Ya hnI)) ?_;conv=>whnf)|(refine FINDD.at (by rw[Nat.zero_add];exact YG (Ya hnI)) ?_;conv=>whnf)|(refine GET.at (gL (by rw[Z9 (by omega) (by omega)];omega)) ?_;conv=>whnf)|(refine NEED.mk (Zj 8 rfl rfl (by simp) (by simp) (by omega)) ?_;conv=>whnf)|refine AU ?_|(refine IW ?_ ?_<;>intro h<;>try(exfalso;omega)))<;>conv=>whnf)
      all_goals first|(exfalso;omega)|skip
      all_goals
       rw[Uu hnI (by omega) (s:=k) (by rw[<-hL];rw[List.take_of_length_le (by simp),List.take_of_length_le (by simp)];simp[ZT]),<-J7 hnd hn0A hT2,hAn,<-hS];refine⟨0+1,by omega,by omega,?_⟩;conv=>whnf
       exact GOES.cA h0
     ·have gL:∀{m:Nat},m+1=L.length->(L.map ZT)[m]?=some (ZT j):=fun{m} h=>by
       rw[hL0]at h⊢;have h:m=c.length:=by simp at h;omega
       subst h;rw[List.getElem?_map,List.getElem?_append_right (Nat.le_refl _)];simp
      have hLz:L.length=c.length+1:=by rw[hL0];simp
      by_cases hjk:j=k
      ·have hT2:A[n0]∈T:=hlast.1 ⟨c,by rw[hL0,hjk]⟩;clear hlast hqA hmem gQ hT hbl hset;repeat'((first|(show DRAWN _ _ _ _ _ _ _;first|refine DRAWN.of (id:=20) Z0 mixed Xw (by kernel_rfl) ?_|refine DRAWN.of (id:=21) Z0 mixed Xx (by kernel_rfl) ?_|refine DRAWN.of (id:=22) Z0 mixed Xy (by kernel_rfl) ?_)|refine ADD.mk (fun _ _=>?_)|refine AD ?_|refine FORK.mk ?_ ?_|(refine GET.at (by rw[Nat.zero_add];exact YF (Ya hnI)) ?_;conv=>whnf)|(refine FINDD.at (by rw[Nat.zero_add];exact YG (Ya hnI)) ?_;conv=>whnf)|(refine GET.at (gL (by rw[Z9 (by omega) (by omega)];omega)) ?_;conv=>whnf)|(refine NEED.mk (Zj 8 rfl rfl (by simp) (by simp) (by omega)) ?_;conv=>whnf)|refine AU ?_|(refine IW ?_ ?_<;>intro h<;>try(exfalso;omega)))<;>conv=>whnf)
       all_goals first|(exfalso;omega)|skip
       rw[hAn]at hT2;refine⟨0+1,by omega,by omega,?_⟩;rw[hS,Z0N hT2];conv=>whnf
       refine GOES.trans (GHO.goes (GHO.putk 4 n0 0 6 rfl (Z0c hnI rfl) rfl rfl (by rw[List.length_map];exact Nat.le_refl _) (by decide))) ?_;rw[hL,Z0P hnI rfl rfl];exact GOES.cA h0
      ·have hT2:A[n0]∉T:=fun hm=>by
        obtain⟨c',hc'⟩:=hlast.2 hm;rw[hL0]at hc';exact hjk (by simpa using(List.append_inj' hc' rfl).2)
       clear hlast hqA hmem gQ hT hbl hset;repeat'((first|(show DRAWN _ _ _ _ _ _ _;first|refine DRAWN.of (id:=20) Z0 mixed Xw (by kernel_rfl) ?_|refine DRAWN.of (id:=21) Z0 mixed Xx (by kernel_rfl) ?_|refine DRAWN.of (id:=22) Z0 mixed Xy (by kernel_rfl) ?_)|refine ADD.mk (fun _ _=>?_)|refine AD ?_|refine FORK.mk ?_ ?_|(refine GET.at (by rw[Nat.zero_add];exact YF (Ya hnI)) ?_;conv=>whnf)|(refine FINDD.at (by rw[Nat.zero_add];exact YG (Ya hnI)) ?_;conv=>whnf)|(refine GET.at (gL (by rw[Z9 (by omega) (by omega)];omega)) ?_;conv=>whnf)|(refine NEED.mk (Zj 8 rfl rfl (by simp) (by simp) (by omega)) ?_;conv=>whnf)|refine AU ?_|(refine IW ?_ ?_<;>intro h<;>try(exfalso;omega)))<;>conv=>whnf)
       all_goals first|(exfalso;omega)|skip
       all_goals
        rw[Uu hnI (by omega) (s:=k) (by rw[<-hL];rw[List.take_of_length_le (by simp),List.take_of_length_le (by simp)];simp[ZT]),<-J7 hnd hn0A hT2,hAn,<-hS];refine⟨0+1,by omega,by omega,?_⟩;conv=>whnf
        exact GOES.cA h0
    ·have hg:=JJ (b:=0) hnd A.length (q.s).t (Nat.le_refl _);rw[XD hf,<-hAn,hnd.idxOf_getElem n0 hn0A,dif_pos hn0A]at hg;cases hg
   ·have hS:((VW q).take (1+1)).flatMap Zx=((VW q).take 1).flatMap Zx++Zx q.p:=by simp[VW]
    repeat'((first|(refine NEED.mk ⟨by omega,by omega,rfl⟩ ?_;conv=>whnf)|(refine GET.at (row:=[.ptr (.loc 5) 0 0 4]) rfl ?_;conv=>whnf)|(show DRAWN _ _ _ _ _ _ _;first|refine DRAWN.of (id:=20) Z0 mixed Xw (by kernel_rfl) ?_|refine DRAWN.of (id:=21) Z0 mixed Xx (by kernel_rfl) ?_|refine DRAWN.of (id:=22) Z0 mixed Xy (by kernel_rfl) ?_)|refine ADD.mk (fun _ _=>?_)|refine AD ?_|refine FORK.mk ?_ ?_|refine AU ?_|(refine IW ?_ ?_<;>intro h<;>try(exfalso;omega)))<;>conv=>whnf)
    ·refine⟨1+1,by omega,by omega,?_⟩;rw[hS,show Zx q.p=[]from if_neg h,List.append_nil];conv=>whnf
     exact GOES.cA h0
    have h2:q.p.k=2:=h;have hbt:Zx q.p=[(q.p).t]:=if_pos h2;have hsA:(q.p).t∈A:=hqA _ (by unfold Zv;simp[hbt]);rw[hbt]at hS;have hn0A:=List.idxOf_lt_length_of_mem hsA;have hAn:A[A.idxOf (q.p).t]=(q.p).t:=List.getElem_idxOf hn0A;have hix:ixF 0 A (q.p).t=((A.idxOf (q.p).t:Nat):Int):=by unfold ixF;rw[if_pos hsA];omega
    generalize A.idxOf (q.p).t=n0 at hn0A hAn hix;obtain⟨T,hTd⟩:∃T,T=((VW q).take 1).flatMap Zx:=⟨_,rfl⟩;rw[<-hTd]at hS⊢;refine NEED.mk ⟨KT.ok _,Xq KT intV _⟩ ?_;refine FIND.A KT intV (q.p).t (Xs 0 A A.length) (fun i v hf=>?_) (fun hf=>?_)
    ·have hv:=VM hf;rw[hfA,hix]at hv;subst hv;conv=>whnf
     have hnI:n0< (YJ A l k T).length:=by rw[XB];exact hn0A
     have hPl:(YJ A l k T)[n0].length<=1048577:=by have:=Z0M _ (List.getElem_mem hnI);omega
     refine GHO.drawn (GHO.take 4 n0 0 rfl (Ya hnI) rfl) ?_;rw[show(List.map ZT (YJ A l k T)[n0]).length=(YJ A l k T)[n0].length from List.length_map ..];obtain⟨L,hL⟩:∃L,L=(YJ A l k T)[n0]:=⟨_,rfl⟩;have hlast:=Wu (A:=A) (l:=l) (k:=k) (T:=T) hn0A;rw[<-hL]at hlast hPl⊢;rcases Uv L with hL0|⟨c,j,hL0⟩
     ·have hT2:A[n0]∉T:=fun hm=>by
       obtain⟨c,hc⟩:=hlast.2 hm;rw[hL0]at hc;simp at hc
      have gL:∀{m:Nat},m+1=0->(L.map ZT)[m]?=some []:=fun h=>by omega
      have hLz:L.length=0:=by rw[hL0];rfl
      clear hlast hqA hmem gQ hT hbl hset;repeat'((first|(show DRAWN _ _ _ _ _ _ _;first|refine DRAWN.of (id:=20) Z0 mixed Xw (by kernel_rfl) ?_|refine DRAWN.of (id:=21) Z0 mixed Xx (by kernel_rfl) ?_|refine DRAWN.of (id:=22) Z0 mixed Xy (by kernel_rfl) ?_)|refine ADD.mk (fun _ _=>?_)|refine AD ?_|refine FORK.mk ?_ ?_|(refine GET.at (by rw[Nat.zero_add];exact YF (Ya hnI)) ?_;conv=>whnf)|(refine FINDD.at (by rw[Nat.zero_add];exact YG (Ya hnI)) ?_;conv=>whnf)|(refine GET.at (gL (by rw[Z9 (by omega) (by omega)];omega)) ?_;conv=>whnf)|(refine NEED.mk (Zj 8 rfl rfl (by simp) (by simp) (by omega)) ?_;conv=>whnf)|refine AU ?_|(refine IW ?_ ?_<;>intro h<;>try(exfalso;omega)))<;>conv=>whnf)
      all_goals first|(exfalso;omega)|skip
      all_goals
       rw[Uu hnI (by omega) (s:=k) (by rw[<-hL];rw[List.take_of_length_le (by simp),List.take_of_length_le (by simp)];simp[ZT]),<-J7 hnd hn0A hT2,hAn,<-hS];refine⟨1+1,by omega,by omega,?_⟩;conv=>whnf
       exact GOES.cA h0
     ·have gL:∀{m:Nat},m+1=L.length->(L.map ZT)[m]?=some (ZT j):=fun{m} h=>by
       rw[hL0]at h⊢;have h:m=c.length:=by simp at h;omega
       subst h;rw[List.getElem?_map,List.getElem?_append_right (Nat.le_refl _)];simp
      have hLz:L.length=c.length+1:=by rw[hL0];simp
      by_cases hjk:j=k
      ·have hT2:A[n0]∈T:=hlast.1 ⟨c,by rw[hL0,hjk]⟩;clear hlast hqA hmem gQ hT hbl hset;repeat'((first|(show DRAWN _ _ _ _ _ _ _;first|refine DRAWN.of (id:=20) Z0 mixed Xw (by kernel_rfl) ?_|refine DRAWN.of (id:=21) Z0 mixed Xx (by kernel_rfl) ?_|refine DRAWN.of (id:=22) Z0 mixed Xy (by kernel_rfl) ?_)|refine ADD.mk (fun _ _=>?_)|refine AD ?_|refine FORK.mk ?_ ?_|(refine GET.at (by rw[Nat.zero_add];exact YF (Ya hnI)) ?_;conv=>whnf)|(refine FINDD.at (by rw[Nat.zero_add];exact YG (Ya hnI)) ?_;conv=>whnf)|(refine GET.at (gL (by rw[Z9 (by omega) (by omega)];omega)) ?_;conv=>whnf)|(refine NEED.mk (Zj 8 rfl rfl (by simp) (by simp) (by omega)) ?_;conv=>whnf)|refine AU ?_|(refine IW ?_ ?_<;>intro h<;>try(exfalso;omega)))<;>conv=>whnf)
       all_goals first|(exfalso;omega)|skip
       rw[hAn]at hT2;refine⟨1+1,by omega,by omega,?_⟩;rw[hS,Z0N hT2];conv=>whnf
       refine GOES.trans (GHO.goes (GHO.putk 4 n0 0 6 rfl (Z0c hnI rfl) rfl rfl (by rw[List.length_map];exact Nat.le_refl _) (by decide))) ?_;rw[hL,Z0P hnI rfl rfl];exact GOES.cA h0
      ·have hT2:A[n0]∉T:=fun hm=>by
        obtain⟨c',hc'⟩:=hlast.2 hm;rw[hL0]at hc';exact hjk (by simpa using(List.append_inj' hc' rfl).2)
       clear hlast hqA hmem gQ hT hbl hset;repeat'((first|(show DRAWN _ _ _ _ _ _ _;first|refine DRAWN.of (id:=20) Z0 mixed Xw (by kernel_rfl) ?_|refine DRAWN.of (id:=21) Z0 mixed Xx (by kernel_rfl) ?_|refine DRAWN.of (id:=22) Z0 mixed Xy (by kernel_rfl) ?_)|refine ADD.mk (fun _ _=>?_)|refine AD ?_|refine FORK.mk ?_ ?_|(refine GET.at (by rw[Nat.zero_add];exact YF (Ya hnI)) ?_;conv=>whnf)|(refine FINDD.at (by rw[Nat.zero_add];exact YG (Ya hnI)) ?_;conv=>whnf)|(refine GET.at (gL (by rw[Z9 (by omega) (by omega)];omega)) ?_;conv=>whnf)|(refine NEED.mk (Zj 8 rfl rfl (by simp) (by simp) (by omega)) ?_;conv=>whnf)|refine AU ?_|(refine IW ?_ ?_<;>intro h<;>try(exfalso;omega)))<;>conv=>whnf)
       all_goals first|(exfalso;omega)|skip
       all_goals
        rw[Uu hnI (by omega) (s:=k) (by rw[<-hL];rw[List.take_of_length_le (by simp),List.take_of_length_le (by simp)];simp[ZT]),<-J7 hnd hn0A hT2,hAn,<-hS];refine⟨1+1,by omega,by omega,?_⟩;conv=>whnf
        exact GOES.cA h0
    ·have hg:=JJ (b:=0) hnd A.length (q.p).t (Nat.le_refl _);rw[XD hf,<-hAn,hnd.idxOf_getElem n0 hn0A,dif_pos hn0A]at hg;cases hg
   ·have hS:((VW q).take (2+1)).flatMap Zx=((VW q).take 2).flatMap Zx++Zx q.o:=by simp[VW]
    repeat'((first|(refine NEED.mk ⟨by omega,by omega,rfl⟩ ?_;conv=>whnf)|(refine GET.at (row:=[.ptr (.loc 5) 0 0 8]) rfl ?_;conv=>whnf)|(show DRAWN _ _ _ _ _ _ _;first|refine DRAWN.of (id:=20) Z0 mixed Xw (by kernel_rfl) ?_|refine DRAWN.of (id:=21) Z0 mixed Xx (by kernel_rfl) ?_|refine DRAWN.of (id:=22) Z0 mixed Xy (by kernel_rfl) ?_)|refine ADD.mk (fun _ _=>?_)|refine AD ?_|refine FORK.mk ?_ ?_|refine AU ?_|(refine IW ?_ ?_<;>intro h<;>try(exfalso;omega)))<;>conv=>whnf)
    ·refine⟨2+1,by omega,by omega,?_⟩;rw[hS,show Zx q.o=[]from if_neg h,List.append_nil];conv=>whnf
     exact GOES.cA h0
    have h2:q.o.k=2:=h;have hbt:Zx q.o=[(q.o).t]:=if_pos h2;have hsA:(q.o).t∈A:=hqA _ (by unfold Zv;simp[hbt]);rw[hbt]at hS;have hn0A:=List.idxOf_lt_length_of_mem hsA;have hAn:A[A.idxOf (q.o).t]=(q.o).t:=List.getElem_idxOf hn0A;have hix:ixF 0 A (q.o).t=((A.idxOf (q.o).t:Nat):Int):=by unfold ixF;rw[if_pos hsA];omega
    generalize A.idxOf (q.o).t=n0 at hn0A hAn hix;obtain⟨T,hTd⟩:∃T,T=((VW q).take 2).flatMap Zx:=⟨_,rfl⟩;rw[<-hTd]at hS⊢;refine NEED.mk ⟨KT.ok _,Xq KT intV _⟩ ?_;refine FIND.A KT intV (q.o).t (Xs 0 A A.length) (fun i v hf=>?_) (fun hf=>?_)
    ·have hv:=VM hf;rw[hfA,hix]at hv;subst hv;conv=>whnf
     have hnI:n0< (YJ A l k T).length:=by rw[XB];exact hn0A
     have hPl:(YJ A l k T)[n0].length<=1048577:=by have:=Z0M _ (List.getElem_mem hnI);omega
     refine GHO.drawn (GHO.take 4 n0 0 rfl (Ya hnI) rfl) ?_;rw[show(List.map ZT (YJ A l k T)[n0]).length=(YJ A l k T)[n0].length from List.length_map ..];obtain⟨L,hL⟩:∃L,L=(YJ A l k T)[n0]:=⟨_,rfl⟩;have hlast:=Wu (A:=A) (l:=l) (k:=k) (T:=T) hn0A;rw[<-hL]at hlast hPl⊢;rcases Uv L with hL0|⟨c,j,hL0⟩
     ·have hT2:A[n0]∉T:=fun hm=>by
       obtain⟨c,hc⟩:=hlast.2 hm;rw[hL0]at hc;simp at hc
      have gL:∀{m:Nat},m+1=0->(L.map ZT)[m]?=some []:=fun h=>by omega
      have hLz:L.length=0:=by rw[hL0];rfl
      clear hlast hqA hmem gQ hT hbl hset;repeat'((first|(show DRAWN _ _ _ _ _ _ _;first|refine DRAWN.of (id:=20) Z0 mixed Xw (by kernel_rfl) ?_|refine DRAWN.of (id:=21) Z0 mixed Xx (by kernel_rfl) ?_|refine DRAWN.of (id:=22) Z0 mixed Xy (by kernel_rfl) ?_)|refine ADD.mk (fun _ _=>?_)|refine AD ?_|refine FORK.mk ?_ ?_|(refine GET.at (by rw[Nat.zero_add];exact YF (Ya hnI)) ?_;conv=>whnf)|(refine FINDD.at (by rw[Nat.zero_add];exact YG (Ya hnI)) ?_;conv=>whnf)|(refine GET.at (gL (by rw[Z9 (by omega) (by omega)];omega)) ?_;conv=>whnf)|(refine NEED.mk (Zj 8 rfl rfl (by simp) (by simp) (by omega)) ?_;conv=>whnf)|refine AU ?_|(refine IW ?_ ?_<;>intro h<;>try(exfalso;omega)))<;>conv=>whnf)
      all_goals first|(exfalso;omega)|skip
      all_goals
       rw[Uu hnI (by omega) (s:=k) (by rw[<-hL];rw[List.take_of_length_le (by simp),List.take_of_length_le (by simp)];simp[ZT]),<-J7 hnd hn0A hT2,hAn,<-hS];refine⟨2+1,by omega,by omega,?_⟩;conv=>whnf
       exact GOES.cA h0
     ·have gL:∀{m:Nat},m+1=L.length->(L.map ZT)[m]?=some (ZT j):=fun{m} h=>by
       rw[hL0]at h⊢;have h:m=c.length:=by simp at h;omega
       subst h;rw[List.getElem?_map,List.getElem?_append_right (Nat.le_refl _)];simp
      have hLz:L.length=c.length+1:=by rw[hL0];simp
      by_cases hjk:j=k
      ·have hT2:A[n0]∈T:=hlast.1 ⟨c,by rw[hL0,hjk]⟩;clear hlast hqA hmem gQ hT hbl hset;repeat'((first|(show DRAWN _ _ _ _ _ _ _;first|refine DRAWN.of (id:=20) Z0 mixed Xw (by kernel_rfl) ?_|refine DRAWN.of (id:=21) Z0 mixed Xx (by kernel_rfl) ?_|refine DRAWN.of (id:=22) Z0 mixed Xy (by kernel_rfl) ?_)|refine ADD.mk (fun _ _=>?_)|refine AD ?_|refine FORK.mk ?_ ?_|(refine GET.at (by rw[Nat.zero_add];exact YF (Ya hnI)) ?_;conv=>whnf)|(refine FINDD.at (by rw[Nat.zero_add];exact YG (Ya hnI)) ?_;conv=>whnf)|(refine GET.at (gL (by rw[Z9 (by omega) (by omega)];omega)) ?_;conv=>whnf)|(refine NEED.mk (Zj 8 rfl rfl (by simp) (by simp) (by omega)) ?_;conv=>whnf)|refine AU ?_|(refine IW ?_ ?_<;>intro h<;>try(exfalso;omega)))<;>conv=>whnf)
       all_goals first|(exfalso;omega)|skip
       rw[hAn]at hT2;refine⟨2+1,by omega,by omega,?_⟩;rw[hS,Z0N hT2];conv=>whnf
       refine GOES.trans (GHO.goes (GHO.putk 4 n0 0 6 rfl (Z0c hnI rfl) rfl rfl (by rw[List.length_map];exact Nat.le_refl _) (by decide))) ?_;rw[hL,Z0P hnI rfl rfl];exact GOES.cA h0
      ·have hT2:A[n0]∉T:=fun hm=>by
        obtain⟨c',hc'⟩:=hlast.2 hm;rw[hL0]at hc';exact hjk (by simpa using(List.append_inj' hc' rfl).2)
       clear hlast hqA hmem gQ hT hbl hset;repeat'((first|(show DRAWN _ _ _ _ _ _ _;first|refine DRAWN.of (id:=20) Z0 mixed Xw (by kernel_rfl) ?_|refine DRAWN.of (id:=21) Z0 mixed Xx (by kernel_rfl) ?_|refine DRAWN.of (id:=22) Z0 mixed Xy (by kernel_rfl) ?_)|refine ADD.mk (fun _ _=>?_)|refine AD ?_|refine FORK.mk ?_ ?_|(refine GET.at (by rw[Nat.zero_add];exact YF (Ya hnI)) ?_;conv=>whnf)|(refine FINDD.at (by rw[Nat.zero_add];exact YG (Ya hnI)) ?_;conv=>whnf)|(refine GET.at (gL (by rw[Z9 (by omega) (by omega)];omega)) ?_;conv=>whnf)|(refine NEED.mk (Zj 8 rfl rfl (by simp) (by simp) (by omega)) ?_;conv=>whnf)|refine AU ?_|(refine IW ?_ ?_<;>intro h<;>try(exfalso;omega)))<;>conv=>whnf)
       all_goals first|(exfalso;omega)|skip
       all_goals
        rw[Uu hnI (by omega) (s:=k) (by rw[<-hL];rw[List.take_of_length_le (by simp),List.take_of_length_le (by simp)];simp[ZT]),<-J7 hnd hn0A hT2,hAn,<-hS];refine⟨2+1,by omega,by omega,?_⟩;conv=>whnf
        exact GOES.cA h0
    ·have hg:=JJ (b:=0) hnd A.length (q.o).t (Nat.le_refl _);rw[XD hf,<-hAn,hnd.idxOf_getElem n0 hn0A,dif_pos hn0A]at hg;cases hg
   ·have hS:((VW q).take (3+1)).flatMap Zx=((VW q).take 3).flatMap Zx++Zx q.g:=by simp[VW]
    repeat'((first|(refine NEED.mk ⟨by omega,by omega,rfl⟩ ?_;conv=>whnf)|(refine GET.at (row:=[.ptr (.loc 5) 0 0 12]) rfl ?_;conv=>whnf)|(show DRAWN _ _ _ _ _ _ _;first|refine DRAWN.of (id:=20) Z0 mixed Xw (by kernel_rfl) ?_|refine DRAWN.of (id:=21) Z0 mixed Xx (by kernel_rfl) ?_|refine DRAWN.of (id:=22) Z0 mixed Xy (by kernel_rfl) ?_)|refine ADD.mk (fun _ _=>?_)|refine AD ?_|refine FORK.mk ?_ ?_|refine AU ?_|(refine IW ?_ ?_<;>intro h<;>try(exfalso;omega)))<;>conv=>whnf)
    ·refine⟨3+1,by omega,by omega,?_⟩;rw[hS,show Zx q.g=[]from if_neg h,List.append_nil];conv=>whnf
     exact GOES.cA h0
    have h2:q.g.k=2:=h;have hbt:Zx q.g=[(q.g).t]:=if_pos h2;have hsA:(q.g).t∈A:=hqA _ (by unfold Zv;simp[hbt]);rw[hbt]at hS;have hn0A:=List.idxOf_lt_length_of_mem hsA;have hAn:A[A.idxOf (q.g).t]=(q.g).t:=List.getElem_idxOf hn0A;have hix:ixF 0 A (q.g).t=((A.idxOf (q.g).t:Nat):Int):=by unfold ixF;rw[if_pos hsA];omega
    generalize A.idxOf (q.g).t=n0 at hn0A hAn hix;obtain⟨T,hTd⟩:∃T,T=((VW q).take 3).flatMap Zx:=⟨_,rfl⟩;rw[<-hTd]at hS⊢;refine NEED.mk ⟨KT.ok _,Xq KT intV _⟩ ?_;refine FIND.A KT intV (q.g).t (Xs 0 A A.length) (fun i v hf=>?_) (fun hf=>?_)
    ·have hv:=VM hf;rw[hfA,hix]at hv;subst hv;conv=>whnf
     have hnI:n0< (YJ A l k T).length:=by rw[XB];exact hn0A
     have hPl:(YJ A l k T)[n0].length<=1048577:=by have:=Z0M _ (List.getElem_mem hnI);omega
     refine GHO.drawn (GHO.take 4 n0 0 rfl (Ya hnI) rfl) ?_;rw[show(List.map ZT (YJ A l k T)[n0]).length=(YJ A l k T)[n0].length from List.length_map ..];obtain⟨L,hL⟩:∃L,L=(YJ A l k T)[n0]:=⟨_,rfl⟩;have hlast:=Wu (A:=A) (l:=l) (k:=k) (T:=T) hn0A;rw[<-hL]at hlast hPl⊢;rcases Uv L with hL0|⟨c,j,hL0⟩
     ·have hT2:A[n0]∉T:=fun hm=>by
       obtain⟨c,hc⟩:=hlast.2 hm;rw[hL0]at hc;simp at hc
      have gL:∀{m:Nat},m+1=0->(L.map ZT)[m]?=some []:=fun h=>by omega
      have hLz:L.length=0:=by rw[hL0];rfl
      clear hlast hqA hmem gQ hT hbl hset;repeat'((first|(show DRAWN _ _ _ _ _ _ _;first|refine DRAWN.of (id:=20) Z0 mixed Xw (by kernel_rfl) ?_|refine DRAWN.of (id:=21) Z0 mixed Xx (by kernel_rfl) ?_|refine DRAWN.of (id:=22) Z0 mixed Xy (by kernel_rfl) ?_)|refine ADD.mk (fun _ _=>?_)|refine AD ?_|refine FORK.mk ?_ ?_|(refine GET.at (by rw[Nat.zero_add];exact YF (Ya hnI)) ?_;conv=>whnf)|(refine FINDD.at (by rw[Nat.zero_add];exact YG (Ya hnI)) ?_;conv=>whnf)|(refine GET.at (gL (by rw[Z9 (by omega) (by omega)];omega)) ?_;conv=>whnf)|(refine NEED.mk (Zj 8 rfl rfl (by simp) (by simp) (by omega)) ?_;conv=>whnf)|refine AU ?_|(refine IW ?_ ?_<;>intro h<;>try(exfalso;omega)))<;>conv=>whnf)
      all_goals first|(exfalso;omega)|skip
      all_goals
       rw[Uu hnI (by omega) (s:=k) (by rw[<-hL];rw[List.take_of_length_le (by simp),List.take_of_length_le (by simp)];simp[ZT]),<-J7 hnd hn0A hT2,hAn,<-hS];refine⟨3+1,by omega,by omega,?_⟩;conv=>whnf
       exact GOES.cA h0
     ·have gL:∀{m:Nat},m+1=L.length->(L.map ZT)[m]?=some (ZT j):=fun{m} h=>by
       rw[hL0]at h⊢;have h:m=c.length:=by simp at h;omega
       subst h;rw[List.getElem?_map,List.getElem?_append_right (Nat.le_refl _)];simp
      have hLz:L.length=c.length+1:=by rw[hL0];simp
      by_cases hjk:j=k
      ·have hT2:A[n0]∈T:=hlast.1 ⟨c,by rw[hL0,hjk]⟩;clear hlast hqA hmem gQ hT hbl hset;repeat'((first|(show DRAWN _ _ _ _ _ _ _;first|refine DRAWN.of (id:=20) Z0 mixed Xw (by kernel_rfl) ?_|refine DRAWN.of (id:=21) Z0 mixed Xx (by kernel_rfl) ?_|refine DRAWN.of (id:=22) Z0 mixed Xy (by kernel_rfl) ?_)|refine ADD.mk (fun _ _=>?_)|refine AD ?_|refine FORK.mk ?_ ?_|(refine GET.at (by rw[Nat.zero_add];exact YF (Ya hnI)) ?_;conv=>whnf)|(refine FINDD.at (by rw[Nat.zero_add];exact YG (Ya hnI)) ?_;conv=>whnf)|(refine GET.at (gL (by rw[Z9 (by omega) (by omega)];omega)) ?_;conv=>whnf)|(refine NEED.mk (Zj 8 rfl rfl (by simp) (by simp) (by omega)) ?_;conv=>whnf)|refine AU ?_|(refine IW ?_ ?_<;>intro h<;>try(exfalso;omega)))<;>conv=>whnf)
       all_goals first|(exfalso;omega)|skip
       rw[hAn]at hT2;refine⟨3+1,by omega,by omega,?_⟩;rw[hS,Z0N hT2];conv=>whnf
       refine GOES.trans (GHO.goes (GHO.putk 4 n0 0 6 rfl (Z0c hnI rfl) rfl rfl (by rw[List.length_map];exact Nat.le_refl _) (by decide))) ?_;rw[hL,Z0P hnI rfl rfl];exact GOES.cA h0
      ·have hT2:A[n0]∉T:=fun hm=>by
        obtain⟨c',hc'⟩:=hlast.2 hm;rw[hL0]at hc';exact hjk (by simpa using(List.append_inj' hc' rfl).2)
       clear hlast hqA hmem gQ hT hbl hset;repeat'((first|(show DRAWN _ _ _ _ _ _ _;first|refine DRAWN.of (id:=20) Z0 mixed Xw (by kernel_rfl) ?_|refine DRAWN.of (id:=21) Z0 mixed Xx (by kernel_rfl) ?_|refine DRAWN.of (id:=22) Z0 mixed Xy (by kernel_rfl) ?_)|refine ADD.mk (fun _ _=>?_)|refine AD ?_|refine FORK.mk ?_ ?_|(refine GET.at (by rw[Nat.zero_add];exact YF (Ya hnI)) ?_;conv=>whnf)|(refine FINDD.at (by rw[Nat.zero_add];exact YG (Ya hnI)) ?_;conv=>whnf)|(refine GET.at (gL (by rw[Z9 (by omega) (by omega)];omega)) ?_;conv=>whnf)|(refine NEED.mk (Zj 8 rfl rfl (by simp) (by simp) (by omega)) ?_;conv=>whnf)|refine AU ?_|(refine IW ?_ ?_<;>intro h<;>try(exfalso;omega)))<;>conv=>whnf)
       all_goals first|(exfalso;omega)|skip
       all_goals
        rw[Uu hnI (by omega) (s:=k) (by rw[<-hL];rw[List.take_of_length_le (by simp),List.take_of_length_le (by simp)];simp[ZT]),<-J7 hnd hn0A hT2,hAn,<-hS];refine⟨3+1,by omega,by omega,?_⟩;conv=>whnf
        exact GOES.cA h0
    ·have hg:=JJ (b:=0) hnd A.length (q.g).t (Nat.le_refl _);rw[XD hf,<-hAn,hnd.idxOf_getElem n0 hn0A,dif_pos hn0A]at hg;cases hg
  ·have hx4:x=4:=by omega
   subst hx4;have hbq:((VW q).take 4).flatMap Zx=Zv q:=by simp[VW,Zv]
   rw[hbq,Z7X hkl (fun s _=>by rw[hq])];repeat'((first|refine AU ?_|(refine IW ?_ ?_<;>intro h<;>try(exfalso;omega)))<;>conv=>whnf)
   refine⟨k+1,by omega,by omega,?_⟩;conv=>whnf
   exact GOES.cA h0
 ·have hke:k=l.length:=by omega
  subst hke;repeat'((first|refine AU ?_|(refine IW ?_ ?_<;>intro h<;>try(exfalso;omega)))<;>conv=>whnf)
  refine FIN.aA h0 [3,1,2,4] (.tup [.ptr (.loc 1) 0 0 0, .int .i64 0]) [(1,fBx l.length lim A.length),(2, .rows 1 ((A++List.replicate jj []).map Z8)),(3, .mp (numT (Xs 0 A A.length))),(4, .deep false 1 (inK (insV A l)))] (.inr (.inr ⟨hv0,by rw[<-hA];omega,rfl,rfl,jj,by rw[<-hA];omega,by rw[<-hA]⟩))
end Go.Proofs.YtlcbipfmodcedaaGreatDoor
