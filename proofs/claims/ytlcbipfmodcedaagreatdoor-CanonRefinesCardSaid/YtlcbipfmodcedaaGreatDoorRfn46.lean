/- Part 46: Can8. Conditions: as each part says. -/
import Derived.Test.YtlcbipfmodcedaaGreatDoorRfn43
import Derived.Test.YtlcbipfmodcedaaGreatDoorRfn45
set_option linter.unusedVariables false
set_option linter.unusedSimpArgs false
set_option maxRecDepth 20000
set_option maxHeartbeats 8000000
namespace Go.Proofs.YtlcbipfmodcedaaGreatDoor
open Go.Sx Go.Our Go.Lib
open Tryz
def Z6v:Plan:=(.take 0 1 (.take 1 1 (.take 2 1 (.take 3 1 (.take 5 1 (.take 6 1 (.take 7 1 (.take 9 1 (.fork 4 0 8 3 (Zu [(8,2),(10,1),(11,2),(12,3),(13,0),(14,0)]) (.take 10 1 (.fork 4 0 11 3 (Zu [(11,2),(12,3),(13,0),(14,0)]) (.fork 4 0 12 3 (Zu [(12,3),(13,0),(14,0)]) (Zu [(4,0),(13,0),(14,0)])))))))))))))
def X7(L:List LB):List (List SV):=L.map Z8
def UG(c:Nat)(k:Int)(L:List LB):DC:=if 0<=k/\k< (c:Int)then .v .any else .kid 1 (X7 L)
theorem Z5i(L:List LB):Zh (X7 L)=true:=Zm L
instance {m:List (Int×List LB)}:PlD (X1 KI 1 X7 m):=⟨Z9k KI (h:=fun _ v=> .kid 1 (X7 v)) (fun k v=>Z5i v) m⟩
instance {c:Nat}{m:List (Int×List LB)}:PlD (X2 KI (UG c) m):=⟨Z9k KI (fun k v=>by unfold UG;split;rfl;exact Z5i v) m⟩
def Zh0(l:List Qd):SV->Hps->Nat->Prop:=fun r O nx=>
 ((Yb l).2≠0/\r= .tup [.val (.slice none 0 0), .int .i64 (Yb l).2]/\O=[]/\nx=1)\/
 ((Yb l).2=0/\4096< (Y1 l).length/\r= .tup [.val (.slice none 0 0), .int .i64 2]/\O=[]/\nx=1)\/
 ((Yb l).2=0/\(Y1 l).length<=4096/\∃F,Refs (Y1 l) l (List.replicate (Y1 l).length 0) F/\r= .tup [.sl (.loc 1) 0 1 (Xc (Y1 l) F (Y1 l).length).length none, .int .i64 0]/\
   O=[(1, .deep false 1 (lbD (Xc (Y1 l) F (Y1 l).length)))]/\nx=2)
theorem Zh1{a:Int}{es:Nat}{rows:List (List SV)}{L:List LB}{m:List (Int×List LB)}(hes:es=1)(hr:rows=X7 L):setD (false,[CK.int .i64]) (flKey (SV.int .i64 a)) (.kid es rows) (X1 KI 1 X7 m)=X1 KI 1 X7 (setA a L m):=by
 subst hes hr;exact ZhI KI 1 X7 a L m
theorem Z8b{a:Int}{j:Nat}{L:List LB}{m:List (Int×List LB)}(h:Int->List LB->DC)(d:DC)(hn:(m.map Prod.fst).Nodup)(hx:ixA a m=some (j,L)):findD (false,[CK.int .i64]) (SV.int .i64 a) 0 ((X2 KI h m).modify j (putD d))=some (j,d):=by
 rw[Z1u KI h d hn hx];exact(Z6t KI _ a m 0).trans (by rw[hx];simp)
theorem Zf7{a:Int}{j es:Nat}{rows:List (List SV)}{L L':List LB}{m:List (Int×List LB)}{d:DC}(hn:(m.map Prod.fst).Nodup)(hx:ixA a m=some (j,L))(hes:es=1)(hr:rows=X7 L'):setD (false,[CK.int .i64]) (flKey (SV.int .i64 a)) (.kid es rows) ((X1 KI 1 X7 m).modify j (putD d))=X1 KI 1 X7 (setA a L' m):=by
 subst hes hr;have hf:=Z8b (fun _ v=> .kid 1 (X7 v)) d hn hx;show setD (false,[CK.int .i64]) (SV.int .i64 a) _ _=_
 unfold setD;rw[Zav,hf];exact Zgp KI 1 X7 d hx rfl
theorem ZdS{a:Int}{j:Nat}{L:List LB}{m:List (Int×List LB)}(h:Int->List LB->DC)(d:DC)(hn:(m.map Prod.fst).Nodup)(hx:ixA a m=some (j,L)):JN (false,[CK.int .i64]) (Zs ((X2 KI h m).modify j (putD d))):=by
 rw[Z1u KI h d hn hx];exact Z6u KI _ _
theorem ZdT(m:List (Int×List LB)):X1 KI 1 X7 m=X2 KI (UG 0) m:=by
 rw[Zav];congr 1;funext k v;unfold UG;rw[if_neg (by omega)]
theorem ZdU(c:Nat)(m:List (Int×List LB)):DullLL (X2 KI (UG c) m) (X2 KI (UG (c+1)) m):=by
 refine ZfT KI fun k v=>?_;unfold UG;by_cases h:0<=k/\k< (c:Int)
 ·rw[if_pos (by omega)];exact .inr rfl
 ·rw[if_neg h];by_cases h2:0<=k/\k< ((c+1:Nat):Int)
  ·rw[if_pos h2];exact .inr rfl
  ·rw[if_neg h2];exact .inl rfl
theorem Z8c{c j:Nat}{L:List LB}{m:List (Int×List LB)}(d:DC)(hn:(m.map Prod.fst).Nodup)(hx:ixA (c:Int) m=some (j,L)):DullLL ((X2 KI (UG c) m).modify j (putD d)) (X2 KI (UG (c+1)) m):=by
 rw[Z1u KI _ d hn hx];refine ZfT KI fun k v=>?_;unfold UG;by_cases h:k=(c:Int)
 ·subst h;rw[if_pos (by omega)];exact .inr rfl
 ·rw[if_neg h];by_cases h2:0<=k/\k< (c:Int)
  ·rw[if_pos (by omega)];exact .inr rfl
  ·rw[if_neg h2,if_neg (by omega)];exact .inl rfl
theorem ZbI(L:List LB)(x:LB):List.take ((X7 L).length+1) (List.take (X7 L).length (X7 L)++List.take 1 (List.drop 0 [[SV.str x]]))=X7 (L++ [x]):=by
 rw[List.take_length,List.take_of_length_le (by simp)];simp[X7,Z8]
theorem Zaw(T:Tab)(V:List (List LB))(k n:Nat):List.take V.length (lbD V)++List.map (fun row=>List.map (appV T 31) row) (List.take 1 (List.drop 0 [[SV.sl (.loc k) 0 1 n none]]))=lbD V++ [[.v (.sl (.loc k) 0 1 n none)]]:=by
 rw[List.take_of_length_le (by simp[lbD])];rfl
theorem Zax(V:List (List LB))(d:DC):(lbD V++ [[d]])[V.length]?=some [d]:=by
 rw[List.getElem?_append_right (by simp[lbD])];simp[lbD]
theorem ZdV(V:List (List LB))(L:List LB)(d:DC){r n:Nat}(hr:r=V.length)(hn:n=(X7 L).length):setC (lbD V++ [[d]]) r 0 (.kid 1 ((X7 L).take n))=lbD (V++ [L]):=by
 subst hr hn;rw[List.take_length];simp only[setC,lbD,List.map_append,List.map_cons,List.map_nil,Zai,X7];apply List.ext_getElem?;intro i;rw[List.getElem?_modify];by_cases e:V.length=i
 ·subst e;rw[List.getElem?_append_right (by simp),List.getElem?_append_right (by simp)];simp
 ·simp only[e,if_false];by_cases h:i<V.length
  ·rw[List.getElem?_append_left (by simpa using h),List.getElem?_append_left (by simpa using h)];simp
  ·rw[List.getElem?_eq_none (by simp;omega),List.getElem?_eq_none (by simp;omega)];rfl
theorem Z9l(l z:List Qd)(lim:Option Nat)(hl:UF l)(ql:Z95 l)(hz:(l++z).length<=1152921504606846976):
 Does prog tab 10 1 [.sl (.loc 0) 0 16 l.length lim] [] [(0, .rows 16 ((l++z).map Zd))] (Zh0 l):=by
 have hf:=Zby l z lim hl ql hz;have hnd:(Y1 l).Nodup:=V9 triL (J1 triL _);have hmem:∀x∈ZR l,x∈Y1 l:=fun x hx=>(Ul _ _).2 hx;refine Does.enter Z0 call10 func10 rfl 69 rfl rfl [.tmp 2, .tmp 3] rfl ?_;intro w0 F η0 h0;conv=>whnf
 repeat'((first|refine AU ?_|(refine IW ?_ ?_<;>intro h<;>try(exfalso;omega)))<;>conv=>whnf)
 refine CALL.aA [0] (hf) ?_;rintro r O nx (⟨hv,rfl,rfl,rfl⟩|⟨hv,hb,rfl,rfl,rfl⟩|⟨hv,hb,rfl,rfl,jj,hj,rfl⟩)
 ·conv=>whnf
  repeat'((first|refine AU ?_|(refine IW ?_ ?_<;>intro h<;>try(exfalso;omega)))<;>conv=>whnf)
  exact FIN.aA h0 [] (.tup [.val (.slice none 0 0), .int .i64 (Yb l).2]) [] (.inl ⟨hv,rfl,rfl,rfl⟩)
 ·conv=>whnf
  repeat'((first|refine AU ?_|(refine IW ?_ ?_<;>intro h<;>try(exfalso;omega)))<;>conv=>whnf)
  exact FIN.aA h0 [] (.tup [.val (.slice none 0 0), .int .i64 2]) [] (.inr (.inl ⟨hv,hb,rfl,rfl,rfl⟩))
 obtain⟨A,hA⟩:∃A,A=Y1 l:=⟨_,rfl⟩;rw[<-hA]at hnd hb hj⊢;have hl1:=(Z1m hv).2;have hOK:CanOK A l (List.replicate A.length 0):=⟨by simp,hb,hl1,hnd,fun s hs=>hA▸hmem s hs,fun c hc=>by rw[List.eq_of_mem_replicate hc];omega⟩;have hR:=Z89 A l z lim (List.replicate A.length 0) hOK hz;have hrp:List.replicate A.length [SV.int .i64 0]=(List.replicate A.length (0:Int)).map Zk:=by rw[List.map_replicate];rfl
 have hfl:(List.replicate A.length (0:Int)).length=A.length:=by simp
 conv=>whnf
 repeat'((first|(refine NEED.mk (Ur 8 rfl (by omega) (by omega) (by omega) (by omega)) ?_;conv=>whnf)|refine AU ?_|(refine IW ?_ ?_<;>intro h<;>try(exfalso;omega)))<;>conv=>whnf)
 rw[Int.toNat_natCast,hrp];refine CALL.aA [1,0,3,4,5,2] (hR) ?_;rintro r O nx ⟨F,hF,rfl,rfl,rfl⟩;obtain⟨hFl,hFr⟩:=hF.ok;rw[List.length_replicate]at hFl hFr;conv=>whnf
 repeat'((first|refine AU ?_|(refine IW ?_ ?_<;>intro h<;>try(exfalso;omega)))<;>conv=>whnf)
 refine GHO.loop (GHO.deep0 7 rfl) ?_;have hzl:(F.zip A).length=A.length:=by rw[List.length_zip];omega
 refine LOOP.gok Z0 [4,6,7,29,30] [] (X:=Nat) (fun i=>i<=A.length) (fun i=>[(31, .int .i64 (i:Int))]) (fun i=>[(1,fBx l.length lim A.length),(2, .rows 1 ((A++List.replicate jj []).map Z8)),(6, .rows 1 (F.map Zk)),(7, .deep true 2 (X1 KI 1 X7 (clM ((F.zip A).take i))))]) 8 (fun i=>A.length-i) 0 (by omega) ?_;conv=>whnf
 refine⟨by exact GOES.kA h0 [1,2,3,4,5,6,7],?_⟩;intro i hi;have hcl:=Zih ((F.zip A).take i);have hml:=ZgZ ((F.zip A).take i);have hsucc:∀h:i<A.length,clM ((F.zip A).take (i+1))=setA (F[i]'(by omega)) ((getA (F[i]'(by omega)) (clM ((F.zip A).take i))).getD []++ [A[i]]) (clM ((F.zip A).take i)):=fun h=>by rw[Zf6 (by omega)];simp only[List.getElem_zip]
 have htl:((F.zip A).take i).length<=4096:=by rw[List.length_take];omega
 have hmn:=ZdR ((F.zip A).take i);have hall:i=A.length->∀c,(getA c (clM ((F.zip A).take i))).getD []=clsL A F c:=fun e c=>by rw[e,<-hzl,List.take_length];exact ZgY c
 generalize clM ((F.zip A).take i)=m at hcl hml hsucc hmn hall⊢;conv=>whnf
 by_cases hil:i<A.length
 ·have gF:∀{k:Nat},k=i->(F.map Zk)[k]?=some (Zk (F[i]'(by omega))):=fun e=>by subst e;rw[List.getElem?_map,List.getElem?_eq_getElem (by omega)];rfl
  have gA:∀{k:Nat},k=i->((A++List.replicate jj []).map Z8)[k]?=some (Z8 A[i]):=fun e=>by subst e;rw[List.getElem?_map,List.getElem?_append_left hil,List.getElem?_eq_getElem hil];rfl
  cases hx:ixA F[i] m with
  |none=>
   have hfN:findD (false,[CK.int .i64]) (SV.int .i64 F[i]) 0 (X1 KI 1 X7 m)=none:=(Z16 KI 1 X7 F[i] m 0).trans (by rw[hx];rfl);repeat'((first|(show DRAWN _ _ _ _ _ _ _;first|refine DRAWN.of (id:=9) Z0 mixed Z6v (by kernel_rfl) ?_)|refine ADD.mk (fun _ _=>?_)|refine AD ?_|refine FORK.mk ?_ ?_|(refine GET.at (gF (by omega)) ?_;conv=>whnf)|(refine GET.at (gA (by omega)) ?_;conv=>whnf)|(refine NEED.mk ⟨KI.ok _,Z79 KI _ _ _⟩ ?_;conv=>whnf)|(refine FINDD.no hfN ?_;conv=>whnf)|(refine NEED.mk ⟨rfl,by omega,Nat.le_of_ble_eq_true rfl⟩ ?_;conv=>whnf)|refine AU ?_|(refine IW ?_ ?_<;>intro h<;>try(exfalso;omega)))<;>conv=>whnf)
   all_goals
    rw[Zh1 (L:=[A[i]]) (by rfl) (by rfl)];refine⟨i+1,by omega,by omega,?_⟩;rw[hsucc hil,XD hx,Option.getD_none,List.nil_append];conv=>whnf
    exact GOES.kA h0 [1,2,3,4,5,6,7]
  |some p=>
   obtain⟨j,L⟩:=p
   have hL:(X7 L).length<=4096:=by
    have:=hcl F[i];rw[Z0y hx]at this;simp only[X7,List.length_map,Option.getD_some]at*;omega
   have hfS:findD (false,[CK.int .i64]) (SV.int .i64 F[i]) 0 (X1 KI 1 X7 m)=some (j, .kid 1 (X7 L)):=(Z16 KI 1 X7 F[i] m 0).trans (by rw[hx];simp);repeat'((first|(show DRAWN _ _ _ _ _ _ _;first|refine DRAWN.of (id:=9) Z0 mixed Z6v (by kernel_rfl) ?_)|refine ADD.mk (fun _ _=>?_)|refine AD ?_|refine FORK.mk ?_ ?_|(refine GET.at (gF (by omega)) ?_;conv=>whnf)|(refine GET.at (gA (by omega)) ?_;conv=>whnf)|(refine NEED.mk ⟨KI.ok _,Z79 KI _ _ _⟩ ?_;conv=>whnf)|(refine FINDD.at hfS ?_;conv=>whnf)|(refine NEED.mk (Zj 16 rfl rfl rfl (Nat.le_refl _) (by omega)) ?_;conv=>whnf)|(refine NEED.mk ⟨KI.ok _,ZdS (fun _ v=> .kid 1 (X7 v)) _ hmn hx⟩ ?_;conv=>whnf)|refine AU ?_|(refine IW ?_ ?_<;>intro h<;>try(exfalso;omega)))<;>conv=>whnf)
   all_goals
    rw[Zf7 (L':=L++ [A[i]]) hmn hx (by rfl) (ZbI L _)];refine⟨i+1,by omega,by omega,?_⟩;rw[hsucc hil,Z0y hx,Option.getD_some];conv=>whnf
    exact GOES.kA h0 [1,2,3,4,5,6,7]
 ·have hie:i=A.length:=by omega
  have hal2:=hall hie;have hcl4:∀c,((getA c m).getD []).length<=4096:=fun c=>Nat.le_trans (hcl c) htl;clear hsucc hcl hml htl hall;subst hie;repeat'((first|refine AU ?_|(refine IW ?_ ?_<;>intro h<;>try(exfalso;omega)))<;>conv=>whnf)
  rw[ZdT];refine LOOP.nil 10 1 rfl ?_;refine GHO.loop (GHO.deepen 8 (lbD []) rfl (Z7V 0)) ?_;refine LOOP.gok Z0 [7,52] [] (X:=Nat) (fun c=>c<=A.length) (fun c=>[(10, .sl (.loc 8) 0 1 (Xc A F c).length none),(53, .int .i64 (c:Int))]) (fun c=>[(7, .deep true 2 (X2 KI (UG c) m)),(8, .deep false 1 (lbD (Xc A F c)))]) 9 (fun c=>A.length-c) 0 (by omega) ?_;conv=>whnf
  refine⟨by exact GOES.kA h0 [1,2,3,4,5,6,7,8],?_⟩;intro c hc;have hgl:=Z48 A F c;have hgs:=Z5h A F c;conv=>whnf
  by_cases hcA:c<A.length
  ·cases hx:ixA (c:Int) m with
   |none=>
    have hfN:findD (false,[CK.int .i64]) (SV.int .i64 (c:Int)) 0 (X2 KI (UG c) m)=none:=(Z6t KI (UG c) (c:Int) m 0).trans (by rw[hx];rfl);repeat'((first|(show DRAWN _ _ _ _ _ _ _;first|refine DRAWN.of (id:=9) Z0 mixed Z6v (by kernel_rfl) ?_)|refine ADD.mk (fun _ _=>?_)|refine AD ?_|refine FORK.mk ?_ ?_|(refine NEED.mk ⟨KI.ok _,Z6u KI _ _⟩ ?_;conv=>whnf)|(refine FINDD.no hfN ?_;conv=>whnf)|refine AU ?_|(refine IW ?_ ?_<;>intro h<;>try(exfalso;omega)))<;>conv=>whnf)
    have he:clsL A F (c:Int)=[]:=by rw[<-hal2,XD hx];rfl
    rw[if_pos he,List.append_nil]at hgs;refine⟨c+1,by omega,by omega,?_⟩;rw[hgs];conv=>whnf
    refine(GHO.goes (GHO.dull 7 rfl (ZdU c m))).trans ?_;exact GOES.kA h0 [1,2,3,4,5,6,7,8]
   |some p=>
    obtain⟨j,L⟩:=p;have hfS:findD (false,[CK.int .i64]) (SV.int .i64 (c:Int)) 0 (X2 KI (UG c) m)=some (j, .kid 1 (X7 L)):=(Z6t KI (UG c) (c:Int) m 0).trans (by rw[hx];simp[UG]);have hfT:=fun d=>Z8b (UG c) d hmn hx
    have hL:(X7 L).length<=4096:=by
     have:=hcl4 (c:Int);rw[Z0y hx]at this;simp only[X7,List.length_map,Option.getD_some]at*;omega
    have hLc:clsL A F (c:Int)=L:=by rw[<-hal2,Z0y hx];rfl
    repeat'((first|(show DRAWN _ _ _ _ _ _ _;first|refine DRAWN.of (id:=9) Z0 mixed Z6v (by kernel_rfl) ?_)|refine ADD.mk (fun _ _=>?_)|refine AD ?_|refine FORK.mk ?_ ?_|(refine NEED.mk ⟨KI.ok _,Z6u KI _ _⟩ ?_;conv=>whnf)|(refine NEED.mk ⟨KI.ok _,ZdS (UG c) _ hmn hx⟩ ?_;conv=>whnf)|(refine FINDD.at hfS ?_;conv=>whnf)|(refine FINDD.at (hfT _) ?_;conv=>whnf)|(refine NEED.mk (Zj 24 rfl rfl rfl (by simp[lbD]) (by omega)) ?_;conv=>whnf)|refine AU ?_|(refine IW ?_ ?_<;>intro h<;>try(exfalso;omega)))<;>conv=>whnf)
    ·have hne:¬clsL A F (c:Int)=[]:=fun e=>by
      have e2:L=[]:=hLc.symm.trans e;rw[e2]at h;simp[X7]at h
     rw[if_neg hne,hLc]at hgs;refine⟨c+1,by omega,by omega,?_⟩;rw[Zaw,hgs,List.length_append,List.length_singleton];conv=>whnf
     refine(GHO.goes (GHO.putk 11 (Xc A F c).length 0 9 rfl (Zax _ _) rfl rfl (Nat.le_refl _) (by decide))).trans ?_;rw[ZdV _ L _ rfl rfl];refine(GHO.goes (GHO.dull 7 rfl (Z8c _ hmn hx))).trans ?_;exact GOES.kA h0 [1,2,3,4,5,6,7,11]
    ·have he:clsL A F (c:Int)=[]:=by rw[hLc];refine List.length_eq_zero_iff.1 ?_;simp only[X7,List.length_map]at*;omega
     rw[if_pos he,List.append_nil]at hgs;refine⟨c+1,by omega,by omega,?_⟩;rw[hgs];conv=>whnf
     refine(GHO.goes (GHO.dull 7 rfl (Z8c _ hmn hx))).trans ?_;exact GOES.kA h0 [1,2,3,4,5,6,7,8]
  ·have hce:c=A.length:=by omega
   subst hce;repeat'((first|refine AU ?_|(refine IW ?_ ?_<;>intro h<;>try(exfalso;omega)))<;>conv=>whnf)
   exact FIN.aA h0 [8] (.tup [.sl (.loc 1) 0 1 (Xc A F A.length).length none, .int .i64 0]) [(1, .deep false 1 (lbD (Xc A F A.length)))] (.inr (.inr ⟨hv,by rw[<-hA];exact hb,F,by rw[<-hA];exact hF,by rw[<-hA],by rw[<-hA],rfl⟩))
end Go.Proofs.YtlcbipfmodcedaaGreatDoor
