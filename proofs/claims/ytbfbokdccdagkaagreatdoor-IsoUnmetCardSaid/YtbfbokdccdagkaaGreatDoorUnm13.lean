/- Part 13: Tag3, Tag4, Term1. Conditions: as each part says. -/
import Derived.Test.YtbfbokdccdagkaaGreatDoorUnm9
set_option linter.unusedVariables false
set_option linter.unusedSimpArgs false
set_option maxRecDepth 20000
set_option maxHeartbeats 8000000
namespace Go.Proofs.YtbfbokdccdagkaaGreatDoor
open Go.Sx Go.Our
open Tryz
theorem Zbh(ps:List (List UInt8))(hb:Z0b ps+ps.length<=68719476736)(i m:Nat)(him:i+m=ps.length)(L E:List UInt8)(P:List UInt8):
 Does prog tab 170 4 [.ptr (.loc 0) 0 0 0] [(0,VZ i m L E [] [] 0 0 P),(2, .rows 1 []),(3, .rows 1 [])] [(1, .rows 1 (ps.map Zu))]
  (fun r O nx=> ∃(i' m':Nat) (S R:List UInt8),i'+m'=ps.length/\r= .bool (Xa (ps.drop i)).isSome/\(∀l,Xa (ps.drop i)=some l->l=ps.drop i')/\O=[(0,UK i' m' L E S R 0 0 P)]/\nx=4):=by
 have hsm:=Z7i (ps:=ps) (by omega);refine Does.enter Z1 call170 func170 rfl 85 rfl rfl [.tmp 2] rfl ?_;intro w0 F η0 h0;conv=>whnf
 refine CALL.hA (JG 204 _ ps (fun s hs=>Z9h s (hsm s hs)) i m him L E [] [] 0 0 P) ?_ ?_
 ·rintro r O' nx' ⟨rfl,rfl,rfl⟩;exact⟨rfl,rfl,rfl⟩
 rintro r O' ⟨rfl,rfl,_⟩;conv=>whnf
 refine IF.mk (fun h1=>?_) (fun h1=>?_)
 ·obtain⟨p,hp,hpm⟩:=Yt h1;have hlt:=(List.getElem?_eq_some_iff.1 hp).1;have hk1:=Z4G (p:=fun s=>Y1 s 4 4 true) hp hpm;obtain⟨k,rfl⟩:∃k,m=k+1:=⟨m-1,by omega⟩;conv=>whnf
  refine CALL.hA (Yo ps i k him p hp L E [] [] 0 0 P) ?_ ?_
  ·rintro r O' nx' ⟨rfl,rfl,rfl⟩;exact⟨rfl,rfl,rfl⟩
  rintro r O' ⟨rfl,rfl,_⟩;conv=>whnf
  refine CALL.hA (JG 205 _ ps (fun s hs=>Z2s s (hsm s hs)) (i+1) k (by omega) L E p [] 0 0 P) ?_ ?_
  ·rintro r O' nx' ⟨rfl,rfl,rfl⟩;exact⟨rfl,rfl,rfl⟩
  rintro r O' ⟨rfl,rfl,_⟩;conv=>whnf
  refine IF.mk (fun h1=>?_) (fun h1=>?_)
  ·obtain⟨q,hq,hqm⟩:=Yt h1;have hlt:=(List.getElem?_eq_some_iff.1 hq).1;obtain⟨k2,rfl⟩:∃k2,k=k2+1:=⟨k-1,by omega⟩;have he:JT W0 (JT (fun s=>Y1 s 4 4 true) (ps.drop i))=ps.drop (i+1+1):=by rw[hk1,Z4G hq hqm]
   conv=>whnf
   refine CALL.hA (Yo ps (i+1) k2 (by omega) q hq L E p [] 0 0 P) ?_ ?_
   ·rintro r O' nx' ⟨rfl,rfl,rfl⟩;exact⟨rfl,rfl,rfl⟩
   rintro r O' ⟨rfl,rfl,_⟩;conv=>whnf
   refine LOOP.nil 3 1 rfl ?_;refine LOOP.go Z1 [0] (X:=Nat×List (List UInt8)×List (List UInt8)) (fun y=>y.1<=ps.length/\y.2.1.length<=y.1/\y.2.2.length<=y.1/\Xq [] (ps.drop (i+1+1))=Xq y.2.1 (ps.drop y.1)) (fun y=>[(3, .sl (.loc 6) 0 1 y.2.1.length none)]) (fun y=>[(0,J4 y.1 (ps.length-y.1) L E (p) (q) y.2.2.length 0 P),(4, .rows 1 (y.2.2.map Zu)),(5, .rows 1 []),(6, .rows 1 (y.2.1.map Zu))]) 7 (fun y=>ps.length-y.1) (i+1+1,[],[]) ⟨by simp only;omega,by simp,by simp,rfl⟩ ?_;conv=>whnf
   try rw[show ps.length-(i+1+1)=k2 by omega]
   refine⟨by exact GOES.kA h0 [2,3,4],?_⟩;rintro⟨a,seen,vs⟩ ⟨ha,hs,hv,hx⟩;dsimp only at ha hs hv hx⊢;conv=>whnf
   refine CALL.hA (Xn 206 _ ps (fun s hs=>JV s (hsm s hs)) a (ps.length-a) (by omega) L E (p) (q) vs.length 0 P) ?_ ?_
   ·rintro r O' nx' ⟨rfl,rfl,rfl⟩;exact⟨rfl,rfl,rfl⟩
   rintro r O' ⟨rfl,rfl,_⟩;conv=>whnf
   refine IF.mk (fun h=>?_) (fun h=>?_)
   ·obtain⟨w,hw,hwm⟩:=Yt h;have hlt:=(List.getElem?_eq_some_iff.1 hw).1;obtain⟨k',hk'⟩:∃k',ps.length-a=k'+1:=⟨ps.length-a-1,by omega⟩;have hpl:=hsm w (List.mem_of_getElem? hw)
    have hxa:Xq seen (ps.drop a)=if Zt w∈seen then none else Xq (seen++ [Zt w]) (ps.drop (a+1)):=by
     rw[Xg hw];simp only[Xq];rw[if_pos hwm]
    rw[hk'];conv=>whnf
    refine CALL.hA (ZZ ps a k' (by omega) w hw L E (p) (q) vs.length 0 P) ?_ ?_
    ·rintro r O' nx' ⟨rfl,rfl,rfl⟩;exact⟨rfl,rfl,rfl⟩
    rintro r O' ⟨rfl,rfl,_⟩;conv=>whnf
    repeat'((first|refine CALL.value (X3 _ hpl) rfl rfl ?_|(refine CALL.look1 6 (Yp seen (Zt w) (by omega)) rfl rfl rfl rfl (Yw _) rfl ?_;conv=>whnf)|refine AU ?_|(refine IW ?_ ?_<;>intro h<;>try(exfalso;omega)))<;>conv=>whnf)
    ·have hin:Zt w∈seen:=by simpa using h
     have hn:Xa (ps.drop i)=none:=by unfold Xa;rw[he,hx,hxa,if_pos hin]
     exact FIN.loose h0 0 [.sl (.loc 1) (a+1) 1 (k') none, .str L, .str E, .str (p), .str (q), .any, .any, .str P] rfl rfl rfl ⟨.inr ⟨rfl,rfl⟩, .inr ⟨rfl,rfl⟩, .inr ⟨rfl,rfl⟩, .inr ⟨rfl,rfl⟩, .inr ⟨rfl,rfl⟩, .inl rfl, .inl rfl, .inr ⟨rfl,rfl⟩,trivial⟩ ⟨a+1,k',p,q,by omega,by rw[hn];rfl,by simp[hn],rfl,rfl⟩
    ·have hin:¬Zt w∈seen:=by simpa using h
     refine⟨(a+1,seen++ [Zt w],vs++ [w]),⟨by simp only;omega,by simp;omega,by simp;omega,by simp only;rw[hx,hxa,if_neg hin]⟩,by simp only;omega,?_⟩;dsimp only;rw[show ps.length-(a+1)=k' by omega,show(vs++ [w]).length=vs.length+1 by simp];conv=>whnf
     exact GOES.kA h0 [10,5,8]
   ·have hv0:Xq seen (ps.drop a)=some (ps.drop a,seen):=by
     rcases XS h with h|⟨s,_,h1,h2⟩
     ·rw[h];rfl
     ·rw[h1];simp only[Xq];rw[if_neg (by simp[h2])]
    have hr0:Xa (ps.drop i)=X2 seen (ps.drop a):=by unfold Xa;rw[he,hx,hv0]
    conv=>whnf
    refine LOOP.go Z1 [0] (X:=Nat×List (List UInt8)×List (List UInt8)) (fun y=>y.1<=ps.length/\y.2.1.length<=y.1/\y.2.2.length<=y.1/\Xa (ps.drop i)=X2 y.2.1 (ps.drop y.1)) (fun y=>[(3, .sl (.loc 6) 0 1 y.2.1.length none)]) (fun y=>[(0,J4 y.1 (ps.length-y.1) L E (p) (q) vs.length y.2.2.length P),(4, .rows 1 (vs.map Zu)),(5, .rows 1 (y.2.2.map Zu)),(6, .rows 1 (y.2.1.map Zu))]) 7 (fun y=>ps.length-y.1) (a,seen,[]) ⟨by simp only;omega,by simp only;omega,by simp,hr0⟩ ?_;conv=>whnf
    refine⟨by exact GOES.kA h0 [4,5,6],?_⟩;clear hr0 hv0 hx hs hv;rintro⟨a,seen,xs⟩ ⟨ha,hs,hv,hx⟩;dsimp only at ha hs hv hx⊢;conv=>whnf
    refine CALL.hA (Xn 208 _ ps (fun s hs=>Uq s (hsm s hs)) a (ps.length-a) (by omega) L E (p) (q) vs.length xs.length P) ?_ ?_
    ·rintro r O' nx' ⟨rfl,rfl,rfl⟩;exact⟨rfl,rfl,rfl⟩
    rintro r O' ⟨rfl,rfl,_⟩;conv=>whnf
    refine IF.mk (fun h=>?_) (fun h=>?_)
    ·obtain⟨w,hw,hwm⟩:=Yt h;have hlt:=(List.getElem?_eq_some_iff.1 hw).1;obtain⟨k',hk'⟩:∃k',ps.length-a=k'+1:=⟨ps.length-a-1,by omega⟩;have hpl:=hsm w (List.mem_of_getElem? hw);rw[hk'];conv=>whnf
     refine CALL.hA (ZZ ps a k' (by omega) w hw L E (p) (q) vs.length xs.length P) ?_ ?_
     ·rintro r O' nx' ⟨rfl,rfl,rfl⟩;exact⟨rfl,rfl,rfl⟩
     rintro r O' ⟨rfl,rfl,_⟩;conv=>whnf
     refine CALL.hA (Ur 2 ps (by omega) (a+1) k' (by omega) L E (p) (q) vs.length xs.length P) ?_ ?_
     ·rintro r O' nx' ⟨n,s,_,_,rfl,rfl,rfl⟩;exact⟨rfl,rfl,rfl⟩
     rintro r O' ⟨n,s,hn,hsl,rfl,rfl,_⟩;have hnle:n<=(ps.drop (a+1)).length:=by rw[hn];exact W1 _ _
     rw[List.length_drop]at hnle
     have hxa:X2 seen (ps.drop a)=if n=0\/Zt w∈seen then none else X2 (seen++ [Zt w]) (ps.drop (a+1+n)):=by
      rw[Xg hw,X2,if_pos hwm,<-hn,List.drop_drop]
     conv=>whnf
     refine IF.mk (fun h1=>?_) (fun h1=>?_)
     ·have h0n:n=0:=by simpa using h1
      have hn:Xa (ps.drop i)=none:=by rw[hx,hxa,if_pos (.inl h0n)]
      conv=>whnf
      repeat'((first|refine AU ?_|(refine IW ?_ ?_<;>intro h<;>try(exfalso;omega)))<;>conv=>whnf)
      exact FIN.loose h0 0 [.sl (.loc 1) (a+1+n) 1 (k'-n) none, .str L, .str E, .str (p), .str (q), .any, .any, .str P] rfl rfl rfl ⟨.inr ⟨rfl,rfl⟩, .inr ⟨rfl,rfl⟩, .inr ⟨rfl,rfl⟩, .inr ⟨rfl,rfl⟩, .inr ⟨rfl,rfl⟩, .inl rfl, .inl rfl, .inr ⟨rfl,rfl⟩,trivial⟩ ⟨a+1+n,k'-n,p,q,by omega,by rw[hn];rfl,by simp[hn],rfl,rfl⟩
     ·have h0n:n≠0:=by simpa using h1
      conv=>whnf
      repeat'((first|refine CALL.value (X3 _ hpl) rfl rfl ?_|(refine CALL.look1 6 (Yp seen (Zt w) (by omega)) rfl rfl rfl rfl (Yw _) rfl ?_;conv=>whnf)|refine AU ?_|(refine IW ?_ ?_<;>intro h<;>try(exfalso;omega)))<;>conv=>whnf)
      ·have hin:Zt w∈seen:=by simp_all
       have hn:Xa (ps.drop i)=none:=by rw[hx,hxa,if_pos (.inr hin)]
       exact FIN.loose h0 0 [.sl (.loc 1) (a+1+n) 1 (k'-n) none, .str L, .str E, .str (p), .str (q), .any, .any, .str P] rfl rfl rfl ⟨.inr ⟨rfl,rfl⟩, .inr ⟨rfl,rfl⟩, .inr ⟨rfl,rfl⟩, .inr ⟨rfl,rfl⟩, .inr ⟨rfl,rfl⟩, .inl rfl, .inl rfl, .inr ⟨rfl,rfl⟩,trivial⟩ ⟨a+1+n,k'-n,p,q,by omega,by rw[hn];rfl,by simp[hn],rfl,rfl⟩
      ·have hin:¬Zt w∈seen:=by simp_all
       refine⟨(a+1+n,seen++ [Zt w],xs++ [w++s]),⟨by simp only;omega,by simp;omega,by simp;omega,by simp only;rw[hx,hxa,if_neg (by simp[h0n,hin])]⟩,by simp only;omega,?_⟩;dsimp only;rw[show ps.length-(a+1+n)=k'-n by omega,show(xs++ [w++s]).length=xs.length+1 by simp];conv=>whnf
       exact GOES.kA h0 [4,10,8]
    ·have hv0:X2 seen (ps.drop a)=some (ps.drop a):=by
      rcases XS h with h|⟨s,_,h1,h2⟩
      ·rw[h,X2]
      ·rw[h1,X2,if_neg (by simp[h2])]
     conv=>whnf
     exact FIN.loose h0 0 [.sl (.loc 1) (a) 1 (ps.length-a) none, .str L, .str E, .str (p), .str (q), .any, .any, .str P] rfl rfl rfl ⟨.inr ⟨rfl,rfl⟩, .inr ⟨rfl,rfl⟩, .inr ⟨rfl,rfl⟩, .inr ⟨rfl,rfl⟩, .inr ⟨rfl,rfl⟩, .inl rfl, .inl rfl, .inr ⟨rfl,rfl⟩,trivial⟩ ⟨a,ps.length-a,p,q,by omega,by rw[hx,hv0];rfl,by rw[hx,hv0];rintro l ⟨⟩;rfl,rfl,rfl⟩
  ·have he:JT W0 (JT (fun s=>Y1 s 4 4 true) (ps.drop i))=ps.drop (i+1):=by rw[hk1,Z7j h1]
   conv=>whnf
   refine LOOP.nil 3 1 rfl ?_;refine LOOP.go Z1 [0] (X:=Nat×List (List UInt8)×List (List UInt8)) (fun y=>y.1<=ps.length/\y.2.1.length<=y.1/\y.2.2.length<=y.1/\Xq [] (ps.drop (i+1))=Xq y.2.1 (ps.drop y.1)) (fun y=>[(3, .sl (.loc 6) 0 1 y.2.1.length none)]) (fun y=>[(0,J4 y.1 (ps.length-y.1) L E (p) ([]) y.2.2.length 0 P),(4, .rows 1 (y.2.2.map Zu)),(5, .rows 1 []),(6, .rows 1 (y.2.1.map Zu))]) 7 (fun y=>ps.length-y.1) (i+1,[],[]) ⟨by simp only;omega,by simp,by simp,rfl⟩ ?_;conv=>whnf
   try rw[show ps.length-(i+1)=k by omega]
   refine⟨by exact GOES.kA h0 [2,3,4],?_⟩;rintro⟨a,seen,vs⟩ ⟨ha,hs,hv,hx⟩;dsimp only at ha hs hv hx⊢;conv=>whnf
   refine CALL.hA (Xn 206 _ ps (fun s hs=>JV s (hsm s hs)) a (ps.length-a) (by omega) L E (p) ([]) vs.length 0 P) ?_ ?_
   ·rintro r O' nx' ⟨rfl,rfl,rfl⟩;exact⟨rfl,rfl,rfl⟩
   rintro r O' ⟨rfl,rfl,_⟩;conv=>whnf
   refine IF.mk (fun h=>?_) (fun h=>?_)
   ·obtain⟨w,hw,hwm⟩:=Yt h;have hlt:=(List.getElem?_eq_some_iff.1 hw).1;obtain⟨k',hk'⟩:∃k',ps.length-a=k'+1:=⟨ps.length-a-1,by omega⟩;have hpl:=hsm w (List.mem_of_getElem? hw)
    have hxa:Xq seen (ps.drop a)=if Zt w∈seen then none else Xq (seen++ [Zt w]) (ps.drop (a+1)):=by
     rw[Xg hw];simp only[Xq];rw[if_pos hwm]
    rw[hk'];conv=>whnf
    refine CALL.hA (ZZ ps a k' (by omega) w hw L E (p) ([]) vs.length 0 P) ?_ ?_
    ·rintro r O' nx' ⟨rfl,rfl,rfl⟩;exact⟨rfl,rfl,rfl⟩
    rintro r O' ⟨rfl,rfl,_⟩;conv=>whnf
    repeat'((first|refine CALL.value (X3 _ hpl) rfl rfl ?_|(refine CALL.look1 6 (Yp seen (Zt w) (by omega)) rfl rfl rfl rfl (Yw _) rfl ?_;conv=>whnf)|refine AU ?_|(refine IW ?_ ?_<;>intro h<;>try(exfalso;omega)))<;>conv=>whnf)
    ·have hin:Zt w∈seen:=by simpa using h
     have hn:Xa (ps.drop i)=none:=by unfold Xa;rw[he,hx,hxa,if_pos hin]
     exact FIN.loose h0 0 [.sl (.loc 1) (a+1) 1 (k') none, .str L, .str E, .str (p), .str ([]), .any, .any, .str P] rfl rfl rfl ⟨.inr ⟨rfl,rfl⟩, .inr ⟨rfl,rfl⟩, .inr ⟨rfl,rfl⟩, .inr ⟨rfl,rfl⟩, .inr ⟨rfl,rfl⟩, .inl rfl, .inl rfl, .inr ⟨rfl,rfl⟩,trivial⟩ ⟨a+1,k',p,[],by omega,by rw[hn];rfl,by simp[hn],rfl,rfl⟩
    ·have hin:¬Zt w∈seen:=by simpa using h
     refine⟨(a+1,seen++ [Zt w],vs++ [w]),⟨by simp only;omega,by simp;omega,by simp;omega,by simp only;rw[hx,hxa,if_neg hin]⟩,by simp only;omega,?_⟩;dsimp only;rw[show ps.length-(a+1)=k' by omega,show(vs++ [w]).length=vs.length+1 by simp];conv=>whnf
     exact GOES.kA h0 [10,5,8]
   ·have hv0:Xq seen (ps.drop a)=some (ps.drop a,seen):=by
     rcases XS h with h|⟨s,_,h1,h2⟩
     ·rw[h];rfl
     ·rw[h1];simp only[Xq];rw[if_neg (by simp[h2])]
    have hr0:Xa (ps.drop i)=X2 seen (ps.drop a):=by unfold Xa;rw[he,hx,hv0]
    conv=>whnf
    refine LOOP.go Z1 [0] (X:=Nat×List (List UInt8)×List (List UInt8)) (fun y=>y.1<=ps.length/\y.2.1.length<=y.1/\y.2.2.length<=y.1/\Xa (ps.drop i)=X2 y.2.1 (ps.drop y.1)) (fun y=>[(3, .sl (.loc 6) 0 1 y.2.1.length none)]) (fun y=>[(0,J4 y.1 (ps.length-y.1) L E (p) ([]) vs.length y.2.2.length P),(4, .rows 1 (vs.map Zu)),(5, .rows 1 (y.2.2.map Zu)),(6, .rows 1 (y.2.1.map Zu))]) 7 (fun y=>ps.length-y.1) (a,seen,[]) ⟨by simp only;omega,by simp only;omega,by simp,hr0⟩ ?_;conv=>whnf
    refine⟨by exact GOES.kA h0 [4,5,6],?_⟩;clear hr0 hv0 hx hs hv;rintro⟨a,seen,xs⟩ ⟨ha,hs,hv,hx⟩;dsimp only at ha hs hv hx⊢;conv=>whnf
    refine CALL.hA (Xn 208 _ ps (fun s hs=>Uq s (hsm s hs)) a (ps.length-a) (by omega) L E (p) ([]) vs.length xs.length P) ?_ ?_
    ·rintro r O' nx' ⟨rfl,rfl,rfl⟩;exact⟨rfl,rfl,rfl⟩
    rintro r O' ⟨rfl,rfl,_⟩;conv=>whnf
    refine IF.mk (fun h=>?_) (fun h=>?_)
    ·obtain⟨w,hw,hwm⟩:=Yt h;have hlt:=(List.getElem?_eq_some_iff.1 hw).1;obtain⟨k',hk'⟩:∃k',ps.length-a=k'+1:=⟨ps.length-a-1,by omega⟩;have hpl:=hsm w (List.mem_of_getElem? hw);rw[hk'];conv=>whnf
     refine CALL.hA (ZZ ps a k' (by omega) w hw L E (p) ([]) vs.length xs.length P) ?_ ?_
     ·rintro r O' nx' ⟨rfl,rfl,rfl⟩;exact⟨rfl,rfl,rfl⟩
     rintro r O' ⟨rfl,rfl,_⟩;conv=>whnf
     refine CALL.hA (Ur 2 ps (by omega) (a+1) k' (by omega) L E (p) ([]) vs.length xs.length P) ?_ ?_
     ·rintro r O' nx' ⟨n,s,_,_,rfl,rfl,rfl⟩;exact⟨rfl,rfl,rfl⟩
     rintro r O' ⟨n,s,hn,hsl,rfl,rfl,_⟩;have hnle:n<=(ps.drop (a+1)).length:=by rw[hn];exact W1 _ _
     rw[List.length_drop]at hnle
     have hxa:X2 seen (ps.drop a)=if n=0\/Zt w∈seen then none else X2 (seen++ [Zt w]) (ps.drop (a+1+n)):=by
      rw[Xg hw,X2,if_pos hwm,<-hn,List.drop_drop]
     conv=>whnf
     refine IF.mk (fun h1=>?_) (fun h1=>?_)
     ·have h0n:n=0:=by simpa using h1
      have hn:Xa (ps.drop i)=none:=by rw[hx,hxa,if_pos (.inl h0n)]
      conv=>whnf
      repeat'((first|refine AU ?_|(refine IW ?_ ?_<;>intro h<;>try(exfalso;omega)))<;>conv=>whnf)
      exact FIN.loose h0 0 [.sl (.loc 1) (a+1+n) 1 (k'-n) none, .str L, .str E, .str (p), .str ([]), .any, .any, .str P] rfl rfl rfl ⟨.inr ⟨rfl,rfl⟩, .inr ⟨rfl,rfl⟩, .inr ⟨rfl,rfl⟩, .inr ⟨rfl,rfl⟩, .inr ⟨rfl,rfl⟩, .inl rfl, .inl rfl, .inr ⟨rfl,rfl⟩,trivial⟩ ⟨a+1+n,k'-n,p,[],by omega,by rw[hn];rfl,by simp[hn],rfl,rfl⟩
     ·have h0n:n≠0:=by simpa using h1
      conv=>whnf
      repeat'((first|refine CALL.value (X3 _ hpl) rfl rfl ?_|(refine CALL.look1 6 (Yp seen (Zt w) (by omega)) rfl rfl rfl rfl (Yw _) rfl ?_;conv=>whnf)|refine AU ?_|(refine IW ?_ ?_<;>intro h<;>try(exfalso;omega)))<;>conv=>whnf)
      ·have hin:Zt w∈seen:=by simp_all
       have hn:Xa (ps.drop i)=none:=by rw[hx,hxa,if_pos (.inr hin)]
       exact FIN.loose h0 0 [.sl (.loc 1) (a+1+n) 1 (k'-n) none, .str L, .str E, .str (p), .str ([]), .any, .any, .str P] rfl rfl rfl ⟨.inr ⟨rfl,rfl⟩, .inr ⟨rfl,rfl⟩, .inr ⟨rfl,rfl⟩, .inr ⟨rfl,rfl⟩, .inr ⟨rfl,rfl⟩, .inl rfl, .inl rfl, .inr ⟨rfl,rfl⟩,trivial⟩ ⟨a+1+n,k'-n,p,[],by omega,by rw[hn];rfl,by simp[hn],rfl,rfl⟩
      ·have hin:¬Zt w∈seen:=by simp_all
       refine⟨(a+1+n,seen++ [Zt w],xs++ [w++s]),⟨by simp only;omega,by simp;omega,by simp;omega,by simp only;rw[hx,hxa,if_neg (by simp[h0n,hin])]⟩,by simp only;omega,?_⟩;dsimp only;rw[show ps.length-(a+1+n)=k'-n by omega,show(xs++ [w++s]).length=xs.length+1 by simp];conv=>whnf
       exact GOES.kA h0 [4,10,8]
    ·have hv0:X2 seen (ps.drop a)=some (ps.drop a):=by
      rcases XS h with h|⟨s,_,h1,h2⟩
      ·rw[h,X2]
      ·rw[h1,X2,if_neg (by simp[h2])]
     conv=>whnf
     exact FIN.loose h0 0 [.sl (.loc 1) (a) 1 (ps.length-a) none, .str L, .str E, .str (p), .str ([]), .any, .any, .str P] rfl rfl rfl ⟨.inr ⟨rfl,rfl⟩, .inr ⟨rfl,rfl⟩, .inr ⟨rfl,rfl⟩, .inr ⟨rfl,rfl⟩, .inr ⟨rfl,rfl⟩, .inl rfl, .inl rfl, .inr ⟨rfl,rfl⟩,trivial⟩ ⟨a,ps.length-a,p,[],by omega,by rw[hx,hv0];rfl,by rw[hx,hv0];rintro l ⟨⟩;rfl,rfl,rfl⟩
 ·have hk1:=Z7j h1;conv=>whnf
  refine CALL.hA (JG 205 _ ps (fun s hs=>Z2s s (hsm s hs)) i m (by omega) L E [] [] 0 0 P) ?_ ?_
  ·rintro r O' nx' ⟨rfl,rfl,rfl⟩;exact⟨rfl,rfl,rfl⟩
  rintro r O' ⟨rfl,rfl,_⟩;conv=>whnf
  refine IF.mk (fun h1=>?_) (fun h1=>?_)
  ·obtain⟨q,hq,hqm⟩:=Yt h1;have hlt:=(List.getElem?_eq_some_iff.1 hq).1;obtain⟨k2,rfl⟩:∃k2,m=k2+1:=⟨m-1,by omega⟩;have he:JT W0 (JT (fun s=>Y1 s 4 4 true) (ps.drop i))=ps.drop (i+1):=by rw[hk1,Z4G hq hqm]
   conv=>whnf
   refine CALL.hA (Yo ps i k2 (by omega) q hq L E [] [] 0 0 P) ?_ ?_
   ·rintro r O' nx' ⟨rfl,rfl,rfl⟩;exact⟨rfl,rfl,rfl⟩
   rintro r O' ⟨rfl,rfl,_⟩;conv=>whnf
   refine LOOP.nil 3 1 rfl ?_;refine LOOP.go Z1 [0] (X:=Nat×List (List UInt8)×List (List UInt8)) (fun y=>y.1<=ps.length/\y.2.1.length<=y.1/\y.2.2.length<=y.1/\Xq [] (ps.drop (i+1))=Xq y.2.1 (ps.drop y.1)) (fun y=>[(3, .sl (.loc 6) 0 1 y.2.1.length none)]) (fun y=>[(0,J4 y.1 (ps.length-y.1) L E ([]) (q) y.2.2.length 0 P),(4, .rows 1 (y.2.2.map Zu)),(5, .rows 1 []),(6, .rows 1 (y.2.1.map Zu))]) 7 (fun y=>ps.length-y.1) (i+1,[],[]) ⟨by simp only;omega,by simp,by simp,rfl⟩ ?_;conv=>whnf
   try rw[show ps.length-(i+1)=k2 by omega]
   refine⟨by exact GOES.kA h0 [2,3,4],?_⟩;rintro⟨a,seen,vs⟩ ⟨ha,hs,hv,hx⟩;dsimp only at ha hs hv hx⊢;conv=>whnf
   refine CALL.hA (Xn 206 _ ps (fun s hs=>JV s (hsm s hs)) a (ps.length-a) (by omega) L E ([]) (q) vs.length 0 P) ?_ ?_
   ·rintro r O' nx' ⟨rfl,rfl,rfl⟩;exact⟨rfl,rfl,rfl⟩
   rintro r O' ⟨rfl,rfl,_⟩;conv=>whnf
   refine IF.mk (fun h=>?_) (fun h=>?_)
   ·obtain⟨w,hw,hwm⟩:=Yt h;have hlt:=(List.getElem?_eq_some_iff.1 hw).1;obtain⟨k',hk'⟩:∃k',ps.length-a=k'+1:=⟨ps.length-a-1,by omega⟩;have hpl:=hsm w (List.mem_of_getElem? hw)
    have hxa:Xq seen (ps.drop a)=if Zt w∈seen then none else Xq (seen++ [Zt w]) (ps.drop (a+1)):=by
     rw[Xg hw];simp only[Xq];rw[if_pos hwm]
    rw[hk'];conv=>whnf
    refine CALL.hA (ZZ ps a k' (by omega) w hw L E ([]) (q) vs.length 0 P) ?_ ?_
    ·rintro r O' nx' ⟨rfl,rfl,rfl⟩;exact⟨rfl,rfl,rfl⟩
    rintro r O' ⟨rfl,rfl,_⟩;conv=>whnf
    repeat'((first|refine CALL.value (X3 _ hpl) rfl rfl ?_|(refine CALL.look1 6 (Yp seen (Zt w) (by omega)) rfl rfl rfl rfl (Yw _) rfl ?_;conv=>whnf)|refine AU ?_|(refine IW ?_ ?_<;>intro h<;>try(exfalso;omega)))<;>conv=>whnf)
    ·have hin:Zt w∈seen:=by simpa using h
     have hn:Xa (ps.drop i)=none:=by unfold Xa;rw[he,hx,hxa,if_pos hin]
     exact FIN.loose h0 0 [.sl (.loc 1) (a+1) 1 (k') none, .str L, .str E, .str ([]), .str (q), .any, .any, .str P] rfl rfl rfl ⟨.inr ⟨rfl,rfl⟩, .inr ⟨rfl,rfl⟩, .inr ⟨rfl,rfl⟩, .inr ⟨rfl,rfl⟩, .inr ⟨rfl,rfl⟩, .inl rfl, .inl rfl, .inr ⟨rfl,rfl⟩,trivial⟩ ⟨a+1,k',[],q,by omega,by rw[hn];rfl,by simp[hn],rfl,rfl⟩
    ·have hin:¬Zt w∈seen:=by simpa using h
     refine⟨(a+1,seen++ [Zt w],vs++ [w]),⟨by simp only;omega,by simp;omega,by simp;omega,by simp only;rw[hx,hxa,if_neg hin]⟩,by simp only;omega,?_⟩;dsimp only;rw[show ps.length-(a+1)=k' by omega,show(vs++ [w]).length=vs.length+1 by simp];conv=>whnf
     exact GOES.kA h0 [10,5,8]
   ·have hv0:Xq seen (ps.drop a)=some (ps.drop a,seen):=by
     rcases XS h with h|⟨s,_,h1,h2⟩
     ·rw[h];rfl
     ·rw[h1];simp only[Xq];rw[if_neg (by simp[h2])]
    have hr0:Xa (ps.drop i)=X2 seen (ps.drop a):=by unfold Xa;rw[he,hx,hv0]
    conv=>whnf
    refine LOOP.go Z1 [0] (X:=Nat×List (List UInt8)×List (List UInt8)) (fun y=>y.1<=ps.length/\y.2.1.length<=y.1/\y.2.2.length<=y.1/\Xa (ps.drop i)=X2 y.2.1 (ps.drop y.1)) (fun y=>[(3, .sl (.loc 6) 0 1 y.2.1.length none)]) (fun y=>[(0,J4 y.1 (ps.length-y.1) L E ([]) (q) vs.length y.2.2.length P),(4, .rows 1 (vs.map Zu)),(5, .rows 1 (y.2.2.map Zu)),(6, .rows 1 (y.2.1.map Zu))]) 7 (fun y=>ps.length-y.1) (a,seen,[]) ⟨by simp only;omega,by simp only;omega,by simp,hr0⟩ ?_;conv=>whnf
    refine⟨by exact GOES.kA h0 [4,5,6],?_⟩;clear hr0 hv0 hx hs hv;rintro⟨a,seen,xs⟩ ⟨ha,hs,hv,hx⟩;dsimp only at ha hs hv hx⊢;conv=>whnf
    refine CALL.hA (Xn 208 _ ps (fun s hs=>Uq s (hsm s hs)) a (ps.length-a) (by omega) L E ([]) (q) vs.length xs.length P) ?_ ?_
    ·rintro r O' nx' ⟨rfl,rfl,rfl⟩;exact⟨rfl,rfl,rfl⟩
    rintro r O' ⟨rfl,rfl,_⟩;conv=>whnf
    refine IF.mk (fun h=>?_) (fun h=>?_)
    ·obtain⟨w,hw,hwm⟩:=Yt h;have hlt:=(List.getElem?_eq_some_iff.1 hw).1;obtain⟨k',hk'⟩:∃k',ps.length-a=k'+1:=⟨ps.length-a-1,by omega⟩;have hpl:=hsm w (List.mem_of_getElem? hw);rw[hk'];conv=>whnf
     refine CALL.hA (ZZ ps a k' (by omega) w hw L E ([]) (q) vs.length xs.length P) ?_ ?_
     ·rintro r O' nx' ⟨rfl,rfl,rfl⟩;exact⟨rfl,rfl,rfl⟩
     rintro r O' ⟨rfl,rfl,_⟩;conv=>whnf
     refine CALL.hA (Ur 2 ps (by omega) (a+1) k' (by omega) L E ([]) (q) vs.length xs.length P) ?_ ?_
     ·rintro r O' nx' ⟨n,s,_,_,rfl,rfl,rfl⟩;exact⟨rfl,rfl,rfl⟩
     rintro r O' ⟨n,s,hn,hsl,rfl,rfl,_⟩;have hnle:n<=(ps.drop (a+1)).length:=by rw[hn];exact W1 _ _
     rw[List.length_drop]at hnle
     have hxa:X2 seen (ps.drop a)=if n=0\/Zt w∈seen then none else X2 (seen++ [Zt w]) (ps.drop (a+1+n)):=by
      rw[Xg hw,X2,if_pos hwm,<-hn,List.drop_drop]
     conv=>whnf
     refine IF.mk (fun h1=>?_) (fun h1=>?_)
     ·have h0n:n=0:=by simpa using h1
      have hn:Xa (ps.drop i)=none:=by rw[hx,hxa,if_pos (.inl h0n)]
      conv=>whnf
      repeat'((first|refine AU ?_|(refine IW ?_ ?_<;>intro h<;>try(exfalso;omega)))<;>conv=>whnf)
      exact FIN.loose h0 0 [.sl (.loc 1) (a+1+n) 1 (k'-n) none, .str L, .str E, .str ([]), .str (q), .any, .any, .str P] rfl rfl rfl ⟨.inr ⟨rfl,rfl⟩, .inr ⟨rfl,rfl⟩, .inr ⟨rfl,rfl⟩, .inr ⟨rfl,rfl⟩, .inr ⟨rfl,rfl⟩, .inl rfl, .inl rfl, .inr ⟨rfl,rfl⟩,trivial⟩ ⟨a+1+n,k'-n,[],q,by omega,by rw[hn];rfl,by simp[hn],rfl,rfl⟩
     ·have h0n:n≠0:=by simpa using h1
      conv=>whnf
      repeat'((first|refine CALL.value (X3 _ hpl) rfl rfl ?_|(refine CALL.look1 6 (Yp seen (Zt w) (by omega)) rfl rfl rfl rfl (Yw _) rfl ?_;conv=>whnf)|refine AU ?_|(refine IW ?_ ?_<;>intro h<;>try(exfalso;omega)))<;>conv=>whnf)
      ·have hin:Zt w∈seen:=by simp_all
       have hn:Xa (ps.drop i)=none:=by rw[hx,hxa,if_pos (.inr hin)]
       exact FIN.loose h0 0 [.sl (.loc 1) (a+1+n) 1 (k'-n) none, .str L, .str E, .str ([]), .str (q), .any, .any, .str P] rfl rfl rfl ⟨.inr ⟨rfl,rfl⟩, .inr ⟨rfl,rfl⟩, .inr ⟨rfl,rfl⟩, .inr ⟨rfl,rfl⟩, .inr ⟨rfl,rfl⟩, .inl rfl, .inl rfl, .inr ⟨rfl,rfl⟩,trivial⟩ ⟨a+1+n,k'-n,[],q,by omega,by rw[hn];rfl,by simp[hn],rfl,rfl⟩
      ·have hin:¬Zt w∈seen:=by simp_all
       refine⟨(a+1+n,seen++ [Zt w],xs++ [w++s]),⟨by simp only;omega,by simp;omega,by simp;omega,by simp only;rw[hx,hxa,if_neg (by simp[h0n,hin])]⟩,by simp only;omega,?_⟩;dsimp only;rw[show ps.length-(a+1+n)=k'-n by omega,show(xs++ [w++s]).length=xs.length+1 by simp];conv=>whnf
       exact GOES.kA h0 [4,10,8]
    ·have hv0:X2 seen (ps.drop a)=some (ps.drop a):=by
      rcases XS h with h|⟨s,_,h1,h2⟩
      ·rw[h,X2]
      ·rw[h1,X2,if_neg (by simp[h2])]
     conv=>whnf
     exact FIN.loose h0 0 [.sl (.loc 1) (a) 1 (ps.length-a) none, .str L, .str E, .str ([]), .str (q), .any, .any, .str P] rfl rfl rfl ⟨.inr ⟨rfl,rfl⟩, .inr ⟨rfl,rfl⟩, .inr ⟨rfl,rfl⟩, .inr ⟨rfl,rfl⟩, .inr ⟨rfl,rfl⟩, .inl rfl, .inl rfl, .inr ⟨rfl,rfl⟩,trivial⟩ ⟨a,ps.length-a,[],q,by omega,by rw[hx,hv0];rfl,by rw[hx,hv0];rintro l ⟨⟩;rfl,rfl,rfl⟩
  ·have he:JT W0 (JT (fun s=>Y1 s 4 4 true) (ps.drop i))=ps.drop i:=by rw[hk1,Z7j h1]
   conv=>whnf
   refine LOOP.nil 3 1 rfl ?_;refine LOOP.go Z1 [0] (X:=Nat×List (List UInt8)×List (List UInt8)) (fun y=>y.1<=ps.length/\y.2.1.length<=y.1/\y.2.2.length<=y.1/\Xq [] (ps.drop (i))=Xq y.2.1 (ps.drop y.1)) (fun y=>[(3, .sl (.loc 6) 0 1 y.2.1.length none)]) (fun y=>[(0,J4 y.1 (ps.length-y.1) L E ([]) ([]) y.2.2.length 0 P),(4, .rows 1 (y.2.2.map Zu)),(5, .rows 1 []),(6, .rows 1 (y.2.1.map Zu))]) 7 (fun y=>ps.length-y.1) (i,[],[]) ⟨by simp only;omega,by simp,by simp,rfl⟩ ?_;conv=>whnf
   try rw[show ps.length-(i)=m by omega]
   refine⟨by exact GOES.kA h0 [2,3,4],?_⟩;rintro⟨a,seen,vs⟩ ⟨ha,hs,hv,hx⟩;dsimp only at ha hs hv hx⊢;conv=>whnf
   refine CALL.hA (Xn 206 _ ps (fun s hs=>JV s (hsm s hs)) a (ps.length-a) (by omega) L E ([]) ([]) vs.length 0 P) ?_ ?_
   ·rintro r O' nx' ⟨rfl,rfl,rfl⟩;exact⟨rfl,rfl,rfl⟩
   rintro r O' ⟨rfl,rfl,_⟩;conv=>whnf
   refine IF.mk (fun h=>?_) (fun h=>?_)
   ·obtain⟨w,hw,hwm⟩:=Yt h;have hlt:=(List.getElem?_eq_some_iff.1 hw).1;obtain⟨k',hk'⟩:∃k',ps.length-a=k'+1:=⟨ps.length-a-1,by omega⟩;have hpl:=hsm w (List.mem_of_getElem? hw)
    have hxa:Xq seen (ps.drop a)=if Zt w∈seen then none else Xq (seen++ [Zt w]) (ps.drop (a+1)):=by
     rw[Xg hw];simp only[Xq];rw[if_pos hwm]
    rw[hk'];conv=>whnf
    refine CALL.hA (ZZ ps a k' (by omega) w hw L E ([]) ([]) vs.length 0 P) ?_ ?_
    ·rintro r O' nx' ⟨rfl,rfl,rfl⟩;exact⟨rfl,rfl,rfl⟩
    rintro r O' ⟨rfl,rfl,_⟩;conv=>whnf
    repeat'((first|refine CALL.value (X3 _ hpl) rfl rfl ?_|(refine CALL.look1 6 (Yp seen (Zt w) (by omega)) rfl rfl rfl rfl (Yw _) rfl ?_;conv=>whnf)|refine AU ?_|(refine IW ?_ ?_<;>intro h<;>try(exfalso;omega)))<;>conv=>whnf)
    ·have hin:Zt w∈seen:=by simpa using h
     have hn:Xa (ps.drop i)=none:=by unfold Xa;rw[he,hx,hxa,if_pos hin]
     exact FIN.loose h0 0 [.sl (.loc 1) (a+1) 1 (k') none, .str L, .str E, .str ([]), .str ([]), .any, .any, .str P] rfl rfl rfl ⟨.inr ⟨rfl,rfl⟩, .inr ⟨rfl,rfl⟩, .inr ⟨rfl,rfl⟩, .inr ⟨rfl,rfl⟩, .inr ⟨rfl,rfl⟩, .inl rfl, .inl rfl, .inr ⟨rfl,rfl⟩,trivial⟩ ⟨a+1,k',[],[],by omega,by rw[hn];rfl,by simp[hn],rfl,rfl⟩
    ·have hin:¬Zt w∈seen:=by simpa using h
     refine⟨(a+1,seen++ [Zt w],vs++ [w]),⟨by simp only;omega,by simp;omega,by simp;omega,by simp only;rw[hx,hxa,if_neg hin]⟩,by simp only;omega,?_⟩;dsimp only;rw[show ps.length-(a+1)=k' by omega,show(vs++ [w]).length=vs.length+1 by simp];conv=>whnf
     exact GOES.kA h0 [10,5,8]
   ·have hv0:Xq seen (ps.drop a)=some (ps.drop a,seen):=by
     rcases XS h with h|⟨s,_,h1,h2⟩
     ·rw[h];rfl
     ·rw[h1];simp only[Xq];rw[if_neg (by simp[h2])]
    have hr0:Xa (ps.drop i)=X2 seen (ps.drop a):=by unfold Xa;rw[he,hx,hv0]
    conv=>whnf
    refine LOOP.go Z1 [0] (X:=Nat×List (List UInt8)×List (List UInt8)) (fun y=>y.1<=ps.length/\y.2.1.length<=y.1/\y.2.2.length<=y.1/\Xa (ps.drop i)=X2 y.2.1 (ps.drop y.1)) (fun y=>[(3, .sl (.loc 6) 0 1 y.2.1.length none)]) (fun y=>[(0,J4 y.1 (ps.length-y.1) L E ([]) ([]) vs.length y.2.2.length P),(4, .rows 1 (vs.map Zu)),(5, .rows 1 (y.2.2.map Zu)),(6, .rows 1 (y.2.1.map Zu))]) 7 (fun y=>ps.length-y.1) (a,seen,[]) ⟨by simp only;omega,by simp only;omega,by simp,hr0⟩ ?_;conv=>whnf
    refine⟨by exact GOES.kA h0 [4,5,6],?_⟩;clear hr0 hv0 hx hs hv;rintro⟨a,seen,xs⟩ ⟨ha,hs,hv,hx⟩;dsimp only at ha hs hv hx⊢;conv=>whnf
    refine CALL.hA (Xn 208 _ ps (fun s hs=>Uq s (hsm s hs)) a (ps.length-a) (by omega) L E ([]) ([]) vs.length xs.length P) ?_ ?_
    ·rintro r O' nx' ⟨rfl,rfl,rfl⟩;exact⟨rfl,rfl,rfl⟩
    rintro r O' ⟨rfl,rfl,_⟩;conv=>whnf
    refine IF.mk (fun h=>?_) (fun h=>?_)
    ·obtain⟨w,hw,hwm⟩:=Yt h;have hlt:=(List.getElem?_eq_some_iff.1 hw).1;obtain⟨k',hk'⟩:∃k',ps.length-a=k'+1:=⟨ps.length-a-1,by omega⟩;have hpl:=hsm w (List.mem_of_getElem? hw);rw[hk'];conv=>whnf
     refine CALL.hA (ZZ ps a k' (by omega) w hw L E ([]) ([]) vs.length xs.length P) ?_ ?_
     ·rintro r O' nx' ⟨rfl,rfl,rfl⟩;exact⟨rfl,rfl,rfl⟩
     rintro r O' ⟨rfl,rfl,_⟩;conv=>whnf
     refine CALL.hA (Ur 2 ps (by omega) (a+1) k' (by omega) L E ([]) ([]) vs.length xs.length P) ?_ ?_
     ·rintro r O' nx' ⟨n,s,_,_,rfl,rfl,rfl⟩;exact⟨rfl,rfl,rfl⟩
     rintro r O' ⟨n,s,hn,hsl,rfl,rfl,_⟩;have hnle:n<=(ps.drop (a+1)).length:=by rw[hn];exact W1 _ _
     rw[List.length_drop]at hnle
     have hxa:X2 seen (ps.drop a)=if n=0\/Zt w∈seen then none else X2 (seen++ [Zt w]) (ps.drop (a+1+n)):=by
      rw[Xg hw,X2,if_pos hwm,<-hn,List.drop_drop]
     conv=>whnf
     refine IF.mk (fun h1=>?_) (fun h1=>?_)
     ·have h0n:n=0:=by simpa using h1
      have hn:Xa (ps.drop i)=none:=by rw[hx,hxa,if_pos (.inl h0n)]
      conv=>whnf
      repeat'((first|refine AU ?_|(refine IW ?_ ?_<;>intro h<;>try(exfalso;omega)))<;>conv=>whnf)
      exact FIN.loose h0 0 [.sl (.loc 1) (a+1+n) 1 (k'-n) none, .str L, .str E, .str ([]), .str ([]), .any, .any, .str P] rfl rfl rfl ⟨.inr ⟨rfl,rfl⟩, .inr ⟨rfl,rfl⟩, .inr ⟨rfl,rfl⟩, .inr ⟨rfl,rfl⟩, .inr ⟨rfl,rfl⟩, .inl rfl, .inl rfl, .inr ⟨rfl,rfl⟩,trivial⟩ ⟨a+1+n,k'-n,[],[],by omega,by rw[hn];rfl,by simp[hn],rfl,rfl⟩
     ·have h0n:n≠0:=by simpa using h1
      conv=>whnf
      repeat'((first|refine CALL.value (X3 _ hpl) rfl rfl ?_|(refine CALL.look1 6 (Yp seen (Zt w) (by omega)) rfl rfl rfl rfl (Yw _) rfl ?_;conv=>whnf)|refine AU ?_|(refine IW ?_ ?_<;>intro h<;>try(exfalso;omega)))<;>conv=>whnf)
      ·have hin:Zt w∈seen:=by simp_all
       have hn:Xa (ps.drop i)=none:=by rw[hx,hxa,if_pos (.inr hin)]
       exact FIN.loose h0 0 [.sl (.loc 1) (a+1+n) 1 (k'-n) none, .str L, .str E, .str ([]), .str ([]), .any, .any, .str P] rfl rfl rfl ⟨.inr ⟨rfl,rfl⟩, .inr ⟨rfl,rfl⟩, .inr ⟨rfl,rfl⟩, .inr ⟨rfl,rfl⟩, .inr ⟨rfl,rfl⟩, .inl rfl, .inl rfl, .inr ⟨rfl,rfl⟩,trivial⟩ ⟨a+1+n,k'-n,[],[],by omega,by rw[hn];rfl,by simp[hn],rfl,rfl⟩
      ·have hin:¬Zt w∈seen:=by simp_all
       refine⟨(a+1+n,seen++ [Zt w],xs++ [w++s]),⟨by simp only;omega,by simp;omega,by simp;omega,by simp only;rw[hx,hxa,if_neg (by simp[h0n,hin])]⟩,by simp only;omega,?_⟩;dsimp only;rw[show ps.length-(a+1+n)=k'-n by omega,show(xs++ [w++s]).length=xs.length+1 by simp];conv=>whnf
       exact GOES.kA h0 [4,10,8]
    ·have hv0:X2 seen (ps.drop a)=some (ps.drop a):=by
      rcases XS h with h|⟨s,_,h1,h2⟩
      ·rw[h,X2]
      ·rw[h1,X2,if_neg (by simp[h2])]
     conv=>whnf
     exact FIN.loose h0 0 [.sl (.loc 1) (a) 1 (ps.length-a) none, .str L, .str E, .str ([]), .str ([]), .any, .any, .str P] rfl rfl rfl ⟨.inr ⟨rfl,rfl⟩, .inr ⟨rfl,rfl⟩, .inr ⟨rfl,rfl⟩, .inr ⟨rfl,rfl⟩, .inr ⟨rfl,rfl⟩, .inl rfl, .inl rfl, .inr ⟨rfl,rfl⟩,trivial⟩ ⟨a,ps.length-a,[],[],by omega,by rw[hx,hv0];rfl,by rw[hx,hv0];rintro l ⟨⟩;rfl,rfl,rfl⟩
end Go.Proofs.YtbfbokdccdagkaaGreatDoor
namespace Go.Proofs.YtbfbokdccdagkaaGreatDoor
open Go.Sx Go.Our
open Tryz
theorem Zbi{p:List UInt8->Bool}{ps:List (List UInt8)}:YR p ps 0=Z8h p ps:=by
 unfold YR;cases ps<;>rfl
theorem Zdh(s:List UInt8)(hs:s.length<=34359738368):Does prog tab 136 0 [.str s] [] [] (Val (.tup [.agg (anyN 7), .int .i64 (if tagP (ZG s)=true then 0 else 61)])):=by
 have hbulk:=Z3H s;have hlen:=Z5Y s;generalize hps:ZG s=ps at*;have hb:Z0b ps+ps.length<=68719476736:=by unfold Z0b;omega
 have hsm:=Z7i (ps:=ps) (by omega);refine Does.enter Z1 call136 func136 rfl 56 rfl rfl [.cell 2 194, .tmp 3] rfl ?_;intro w0 F η0 h0;conv=>whnf
 refine CALL.newS (Z9e s (by omega)) rfl (Yw _) ?_;rw[hps,List.length_map];conv=>whnf
 refine CALL.nilCell 2 5 1 rfl rfl ?_;refine CALL.nilCell 2 6 1 rfl rfl ?_;refine CALL.aA [2,1,3,4] (JG 168 _ ps (fun s hs=>JU s) 0 ps.length (by omega) [] [] [] [] 0 0 []) ?_;rintro r O' nx' ⟨rfl,rfl,rfl⟩;rw[Zbi];conv=>whnf
 refine IF.mk (fun h1=>?_) (fun h1=>?_)
 ·have h1:Z8h Vx ps=false:=by simpa using h1
  conv=>whnf
  repeat'((first|refine AU ?_|(refine IW ?_ ?_<;>intro h<;>try(exfalso;omega)))<;>conv=>whnf)
  refine CALL.aA [2,1,3,4] (Z4F ps (by omega) 0 ps.length (by omega) [] [] 0 0 []) ?_;rintro r O' nx' ⟨i1,m1,L,E,him1,rfl,hL,rfl,rfl⟩;cases h2:Z06 (ps.drop 0)with
  |none=>
   have htag:tagP ps=false:=by
    have h2:Z06 ps=none:=h2;unfold tagP;rw[if_neg (by simp[h1]),h2]
   rw[Option.isSome_none];conv=>whnf
   repeat'((first|refine AU ?_|(refine IW ?_ ?_<;>intro h<;>try(exfalso;omega)))<;>conv=>whnf)
   refine FIN.anyA 7 h0 rfl rfl rfl ⟨?_,rfl,rfl⟩;rw[htag];rfl
  |some l1=>
   have hl1:=hL l1 h2;subst hl1;rw[Option.isSome_some];conv=>whnf
   repeat'((first|refine AU ?_|(refine IW ?_ ?_<;>intro h<;>try(exfalso;omega)))<;>conv=>whnf)
   refine CALL.aA [2,1,3,4] (Zbh ps (by omega) i1 m1 him1 L E []) ?_;rintro r O' nx' ⟨i2,m2,S,R,him2,rfl,hR,rfl,rfl⟩;cases h3:Xa (ps.drop i1)with
   |none=>
    have htag:tagP ps=false:=by
     have h2:Z06 ps=_:=h2;unfold tagP;rw[if_neg (by simp[h1]),h2];simp only[h3]
    rw[Option.isSome_none];conv=>whnf
    repeat'((first|refine AU ?_|(refine IW ?_ ?_<;>intro h<;>try(exfalso;omega)))<;>conv=>whnf)
    refine FIN.anyA 7 h0 rfl rfl rfl ⟨?_,rfl,rfl⟩;rw[htag];rfl
   |some l2=>
    have hl2:=hR l2 h3;subst hl2
    have htag:tagP ps=WA (ps.drop i2):=by
     have h2:Z06 ps=_:=h2;unfold tagP;rw[if_neg (by simp[h1]),h2];simp only[h3]
    rw[Option.isSome_some];conv=>whnf
    repeat'((first|refine AU ?_|(refine IW ?_ ?_<;>intro h<;>try(exfalso;omega)))<;>conv=>whnf)
    refine CALL.aA [2,1,3,4] (Z9i 168 _ ps (fun s hs=>JU s) (i2) (m2) (by omega) L E S R 0 0 []) ?_;rintro r O' nx' ⟨rfl,rfl,rfl⟩;conv=>whnf
    refine IF.mk (fun h1=>?_) (fun h1=>?_)
    ·obtain⟨w,hw,hwm⟩:=Yt h1;have hlt:=(List.getElem?_eq_some_iff.1 hw).1;have hlast:WA (ps.drop (i2))=decide (YD (UJ 1) (ps.drop (i2+1))≠0/\YD (UJ 1) (ps.drop (i2+1))=(ps.drop (i2+1)).length):=by rw[Xg hw];simp only[WA];rw[if_pos hwm]
     rw[List.length_drop]at hlast;obtain⟨k',hk'⟩:∃k',m2=k'+1:=⟨m2-1,by omega⟩;have hwl:=hsm w (List.mem_of_getElem? hw);rw[hk'];conv=>whnf
     refine CALL.aA [2,1,3,4] (UL ps (i2) k' (by omega) w hw L E S R 0 0 []) ?_;rintro r O' nx' ⟨rfl,rfl,rfl⟩;conv=>whnf
     refine CALL.aA [2,1,3,4] (Z9j 1 ps (by omega) (i2+1) k' (by omega) L E S R 0 0 []) ?_;rintro r O' nx' ⟨n,x,hn,hxl,rfl,rfl,rfl⟩;have hn:n=YD (UJ 1) (ps.drop (i2+1)):=hn;have hnle:n<=(ps.drop (i2+1)).length:=by rw[hn];exact W1 _ _
     rw[List.length_drop]at hnle;rw[<-hn]at hlast;conv=>whnf
     repeat'((first|refine AU ?_|(refine IW ?_ ?_<;>intro h<;>try(exfalso;omega)))<;>conv=>whnf)
     all_goals
      refine FIN.anyA 7 h0 rfl rfl rfl ⟨?_,rfl,rfl⟩;rw[htag,hlast]
     ·rw[if_neg (by simp_all)]
     ·rw[if_neg (by simp;omega)]
     ·rw[if_pos (by simp;simp at*;omega)]
    ·have hlast:WA (ps.drop (i2))=decide (m2=0):=by
      rcases XS h1 with h2|⟨x,h3,h2,h4⟩
      ·rw[h2];have:=congrArg List.length h2;rw[List.length_drop,List.length_nil]at this;simp only[WA];symm;exact decide_eq_true (by omega)
      ·have:=(List.getElem?_eq_some_iff.1 h3).1;rw[h2];simp only[WA];rw[if_neg (by simp[h4])];symm;exact decide_eq_false (by omega)
     conv=>whnf
     repeat'((first|refine AU ?_|(refine IW ?_ ?_<;>intro h<;>try(exfalso;omega)))<;>conv=>whnf)
     all_goals
      refine FIN.anyA 7 h0 rfl rfl rfl ⟨?_,rfl,rfl⟩;rw[htag,hlast]
     ·rw[if_neg (by rw[decide_eq_true_iff];omega)]
     ·rw[if_pos (by rw[decide_eq_true_iff];omega)]
 ·have h1:Z8h Vx ps=true:=by simpa using h1
  have htag:tagP ps=WA (ps.drop 0):=by unfold tagP;rw[if_pos h1];rfl
  conv=>whnf
  repeat'((first|refine AU ?_|(refine IW ?_ ?_<;>intro h<;>try(exfalso;omega)))<;>conv=>whnf)
  refine CALL.aA [2,1,3,4] (JG 168 _ ps (fun s hs=>JU s) (0) (ps.length) (by omega) [] [] [] [] 0 0 []) ?_;rintro r O' nx' ⟨rfl,rfl,rfl⟩;conv=>whnf
  refine IF.mk (fun h1=>?_) (fun h1=>?_)
  ·obtain⟨w,hw,hwm⟩:=Yt h1;have hlt:=(List.getElem?_eq_some_iff.1 hw).1;have hlast:WA (ps.drop (0))=decide (YD (UJ 1) (ps.drop (0+1))≠0/\YD (UJ 1) (ps.drop (0+1))=(ps.drop (0+1)).length):=by rw[Xg hw];simp only[WA];rw[if_pos hwm]
   rw[List.length_drop]at hlast;obtain⟨k',hk'⟩:∃k',ps.length=k'+1:=⟨ps.length-1,by omega⟩;have hwl:=hsm w (List.mem_of_getElem? hw);rw[hk'];conv=>whnf
   refine CALL.aA [2,1,3,4] (Yo ps (0) k' (by omega) w hw [] [] [] [] 0 0 []) ?_;rintro r O' nx' ⟨rfl,rfl,rfl⟩;conv=>whnf
   refine CALL.aA [2,1,3,4] (Zbf 1 ps (by omega) (0+1) k' (by omega) [] [] [] [] 0 0 []) ?_;rintro r O' nx' ⟨n,x,hn,hxl,rfl,rfl,rfl⟩;have hn:n=YD (UJ 1) (ps.drop (0+1)):=hn;have hnle:n<=(ps.drop (0+1)).length:=by rw[hn];exact W1 _ _
   rw[List.length_drop]at hnle;rw[<-hn]at hlast;conv=>whnf
   repeat'((first|refine AU ?_|(refine IW ?_ ?_<;>intro h<;>try(exfalso;omega)))<;>conv=>whnf)
   all_goals
    refine FIN.anyA 7 h0 rfl rfl rfl ⟨?_,rfl,rfl⟩;rw[htag,hlast]
   ·rw[if_neg (by simp_all)]
   ·rw[if_neg (by simp;omega)]
   ·rw[if_pos (by simp;simp at*;omega)]
  ·have hlast:WA (ps.drop (0))=decide (ps.length=0):=by
    rcases XS h1 with h2|⟨x,h3,h2,h4⟩
    ·rw[h2];have:=congrArg List.length h2;rw[List.length_drop,List.length_nil]at this;simp only[WA];symm;exact decide_eq_true (by omega)
    ·have:=(List.getElem?_eq_some_iff.1 h3).1;rw[h2];simp only[WA];rw[if_neg (by simp[h4])];symm;exact decide_eq_false (by omega)
   conv=>whnf
   repeat'((first|refine AU ?_|(refine IW ?_ ?_<;>intro h<;>try(exfalso;omega)))<;>conv=>whnf)
   all_goals
    refine FIN.anyA 7 h0 rfl rfl rfl ⟨?_,rfl,rfl⟩;rw[htag,hlast]
   ·rw[if_neg (by rw[decide_eq_true_iff];omega)]
   ·rw[if_pos (by rw[decide_eq_true_iff];omega)]
open Tryz
def Zdi:Plan:=(ZU [(0,1),(1,1),(2,1),(3,1),(6,1),(4,2),(7,2),(5,3),(8,1),(9,1)])
theorem Z64(k:Int)(t y l:List UInt8)(ht:Sm t)(hy:Sm y)(hl:Sm l):Does prog tab 110 0 [.agg [.int .i64 k, .str t, .str y, .str l]] [] [] (Val (.int .i64 (litM t y l))):=by
 refine Does.enter Z1 call110 func110 rfl 55 rfl rfl [.tmp 2] rfl ?_;intro w0 F η0 h0;conv=>whnf
 repeat'((first|refine DRAWN.of (id:=12) Z1 mixed Zdi (by kernel_rfl) ?_|refine ADD.mk (fun _ _=>?_)|refine AD ?_|refine FORK.mk ?_ ?_|refine CALL.value (Z3I _ ht) rfl rfl ?_|refine CALL.value (WC _ hy) rfl rfl ?_|refine CALL.value (Zdh _ (by omega)) rfl rfl ?_|refine CALL.value (X3 _ hl) rfl rfl ?_|(refine CALL.look1 2 (Z4I [(if tagP (ZG l)=true then 0 else 61),61] (by simp)) rfl rfl rfl rfl rfl rfl ?_;conv=>whnf)|refine AU ?_|(refine IW ?_ ?_<;>intro h<;>try(exfalso;omega)))<;>conv=>whnf)
 all_goals
  refine FIN.value h0 rfl (congrArg (SV.int _) ?_);by_cases hy0:y=Vy
  ·have hyb:(y==Vy)=true:=by simp[hy0]
   unfold Vy at hyb;try rw[hyb]at h
   by_cases htg:tagP (ZG l)=true<;>by_cases hlw:Zt l=l<;>by_cases hl0:l=[]<;>simp_all[litM,Vy,orE]<;>omega
  ·have hyb:(y==Vy)=false:=by simp[hy0]
   unfold Vy at hyb;try rw[hyb]at h
   by_cases htg:tagP (ZG l)=true<;>by_cases hlw:Zt l=l<;>by_cases hl0:l=[]<;>simp_all[litM,Vy,orE]<;>omega
theorem Vz(x:Tm)(hx:TmSm x):Does prog tab 86 0 [.agg [.int .i64 x.k, .str x.t, .str x.y, .str x.l]] [] [] (Val (.int .i64 (checkM x))):=by
 obtain⟨ht,hy,hl⟩:=hx;obtain⟨k,t,y,l⟩:=x;dsimp only at ht hy hl⊢;refine Does.enter Z1 call86 func86 rfl 33 rfl rfl [.tmp 2] rfl ?_;intro w0 F η0 h0;conv=>whnf
 repeat'((first|refine CALL.value (Z64 _ _ _ _ ht hy hl) rfl rfl ?_|refine CALL.value (WC _ ht) rfl rfl ?_|refine CALL.value (Z7h _ ht) rfl rfl ?_|refine AU ?_|(refine IW ?_ ?_<;>intro h<;>try(exfalso;omega)))<;>conv=>whnf)
 all_goals
  refine FIN.value h0 rfl (congrArg (SV.int _) ?_);unfold checkM
  first
   |(simp_all;done)
   |(simp_all<;>omega)
theorem Z65(x:Tm):Does prog tab 85 0 [.int .i64 0, .agg [.int .i64 x.k, .str x.t, .str x.y, .str x.l]] [] [] (Val (.bool (decide (x.k=1\/x.k=2)))):=by
 refine Does.enter Z1 call85 func85 rfl 49 rfl rfl [.tmp 4] rfl ?_;intro w0 F η0 h0;conv=>whnf
 repeat'((first|refine AU ?_|(refine IW ?_ ?_<;>intro h<;>try(exfalso;omega)))<;>conv=>whnf)
 all_goals
  refine FIN.value h0 rfl (congrArg SV.bool ?_);by_cases h1:x.k=1<;>by_cases h2:x.k=2<;>simp_all
theorem Z66(x:Tm):Does prog tab 85 0 [.int .i64 1, .agg [.int .i64 x.k, .str x.t, .str x.y, .str x.l]] [] [] (Val (.bool (decide (x.k=1)))):=by
 refine Does.enter Z1 call85 func85 rfl 49 rfl rfl [.tmp 4] rfl ?_;intro w0 F η0 h0;conv=>whnf
 repeat'((first|refine AU ?_|(refine IW ?_ ?_<;>intro h<;>try(exfalso;omega)))<;>conv=>whnf)
 all_goals
  refine FIN.value h0 rfl (congrArg SV.bool ?_);by_cases h1:x.k=1<;>simp_all
theorem Z67(x:Tm):Does prog tab 85 0 [.int .i64 2, .agg [.int .i64 x.k, .str x.t, .str x.y, .str x.l]] [] [] (Val (.bool (decide (x.k=1\/x.k=2\/x.k=3)))):=by
 refine Does.enter Z1 call85 func85 rfl 49 rfl rfl [.tmp 4] rfl ?_;intro w0 F η0 h0;conv=>whnf
 repeat'((first|refine AU ?_|(refine IW ?_ ?_<;>intro h<;>try(exfalso;omega)))<;>conv=>whnf)
 all_goals
  refine FIN.value h0 rfl (congrArg SV.bool ?_);by_cases h1:x.k=1<;>by_cases h2:x.k=2<;>by_cases h3:x.k=3<;>simp_all
theorem Z68(x:Tm):Does prog tab 85 0 [.int .i64 3, .agg [.int .i64 x.k, .str x.t, .str x.y, .str x.l]] [] [] (Val (.bool (decide (x.k=1\/x.k=2\/x=Y6)))):=by
 obtain⟨k,t,y,l⟩:=x;dsimp only;refine Does.enter Z1 call85 func85 rfl 49 rfl rfl [.tmp 4] rfl ?_;intro w0 F η0 h0;conv=>whnf
 repeat'((first|refine AU ?_|(refine IW ?_ ?_<;>intro h<;>try(exfalso;omega)))<;>conv=>whnf)
 all_goals
  refine FIN.value h0 rfl (congrArg SV.bool ?_);unfold Y6;by_cases h1:k=1<;>by_cases h2:k=2<;>by_cases h3:k=0<;>cases t<;>cases y<;>cases l<;>simp_all
theorem Z2u(q:Qd)(hq:QdSm q):Does prog tab 60 0 [q.sv] [] [] (Val (.int .i64 (X5 q))):=by
 obtain⟨hs,hp,ho,hg⟩:=hq;unfold Qd.sv;refine Does.enter Z1 call60 func60 rfl 36 rfl rfl [.tmp 2] rfl ?_;intro w0 F η0 h0;conv=>whnf
 repeat'((first|(refine LOOP.once Z1 ?_;conv=>whnf)|refine CALL.value (Z65 q.s) rfl rfl ?_|refine CALL.value (Z66 q.p) rfl rfl ?_|refine CALL.value (Z67 q.o) rfl rfl ?_|refine CALL.value (Z68 q.g) rfl rfl ?_|refine CALL.value (Vz q.s hs) rfl rfl ?_|refine CALL.value (Vz q.p hp) rfl rfl ?_|refine CALL.value (Vz q.o ho) rfl rfl ?_|refine CALL.value (Vz q.g hg) rfl rfl ?_|refine AU ?_|(refine IW ?_ ?_<;>intro h<;>try(exfalso;omega)))<;>conv=>whnf)
 all_goals
  refine FIN.value h0 rfl (congrArg (SV.int _) ?_);have hco:= @Z7d q.o;have hz:q.g=Y6->q.g.k=0:=fun h=>by rw[h];rfl
  unfold X5;clear hs hp ho hg;by_cases hgz:q.g=Y6
  ·have:=hz hgz;simp_all
  ·by_cases g1:q.g.k=1
   ·simp_all
   ·by_cases g2:q.g.k=2
    ·simp_all
    ·simp_all
end Go.Proofs.YtbfbokdccdagkaaGreatDoor
