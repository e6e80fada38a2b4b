/- Part 17: Tag3. Conditions: as each part says. -/
import Derived.Test.YtlcbipfmodcedaaGreatDoorRfn16
set_option linter.unusedVariables false
set_option linter.unusedSimpArgs false
set_option maxRecDepth 20000
set_option maxHeartbeats 8000000
namespace Go.Proofs.YtlcbipfmodcedaaGreatDoor
open Go.Sx Go.Our
open Tryz
theorem Zdk(ps:List (List UInt8))(hb:JC ps+ps.length<=68719476736)(i m:Nat)(him:i+m=ps.length)(L E:List UInt8)(P:List UInt8):
 Does prog tab 213 4 [.ptr (.loc 0) 0 0 0] [(0,W2 i m L E [] [] 0 0 P),(2, .rows 1 []),(3, .rows 1 [])] [(1, .rows 1 (ps.map Zc))]
  (fun r O nx=> ∃(i' m':Nat) (S R:List UInt8),i'+m'=ps.length/\r= .bool (Xv (ps.drop i)).isSome/\(∀l,Xv (ps.drop i)=some l->l=ps.drop i')/\O=[(0,WL i' m' L E S R 0 0 P)]/\nx=4):=by
 have hsm:=Z0b (ps:=ps) (by omega);refine Does.enter Z0 call213 func213 rfl 85 rfl rfl [.tmp 2] rfl ?_;intro w0 F η0 h0;conv=>whnf
 refine CALL.hA (Vi 262 _ ps (fun s hs=>Zbo s (hsm s hs)) i m him L E [] [] 0 0 P) ?_ ?_
 ·rintro r O' nx' ⟨rfl,rfl,rfl⟩;exact⟨rfl,rfl,rfl⟩
 rintro r O' ⟨rfl,rfl,_⟩;conv=>whnf
 refine IF.mk (fun h1=>?_) (fun h1=>?_)
 ·obtain⟨p,hp,hpm⟩:=ZK h1;have hlt:=(List.getElem?_eq_some_iff.1 hp).1;have hk1:=Vz (p:=fun s=>ZD s 4 4 true) hp hpm;obtain⟨k,rfl⟩:∃k,m=k+1:=⟨m-1,by omega⟩;conv=>whnf
  refine CALL.hA (YC ps i k him p hp L E [] [] 0 0 P) ?_ ?_
  ·rintro r O' nx' ⟨rfl,rfl,rfl⟩;exact⟨rfl,rfl,rfl⟩
  rintro r O' ⟨rfl,rfl,_⟩;conv=>whnf
  refine CALL.hA (Vi 263 _ ps (fun s hs=>Z3P s (hsm s hs)) (i+1) k (by omega) L E p [] 0 0 P) ?_ ?_
  ·rintro r O' nx' ⟨rfl,rfl,rfl⟩;exact⟨rfl,rfl,rfl⟩
  rintro r O' ⟨rfl,rfl,_⟩;conv=>whnf
  refine IF.mk (fun h1=>?_) (fun h1=>?_)
  ·obtain⟨q,hq,hqm⟩:=ZK h1;have hlt:=(List.getElem?_eq_some_iff.1 hq).1;obtain⟨k2,rfl⟩:∃k2,k=k2+1:=⟨k-1,by omega⟩;have he:J9 Xj (J9 (fun s=>ZD s 4 4 true) (ps.drop i))=ps.drop (i+1+1):=by rw[hk1,Vz hq hqm]
   conv=>whnf
   refine CALL.hA (YC ps (i+1) k2 (by omega) q hq L E p [] 0 0 P) ?_ ?_
   ·rintro r O' nx' ⟨rfl,rfl,rfl⟩;exact⟨rfl,rfl,rfl⟩
   rintro r O' ⟨rfl,rfl,_⟩;conv=>whnf
   refine LOOP.nil 3 1 rfl ?_;refine LOOP.go Z0 [0] (X:=Nat×List (List UInt8)×List (List UInt8)) (fun y=>y.1<=ps.length/\y.2.1.length<=y.1/\y.2.2.length<=y.1/\YN [] (ps.drop (i+1+1))=YN y.2.1 (ps.drop y.1)) (fun y=>[(3, .sl (.loc 6) 0 1 y.2.1.length none)]) (fun y=>[(0,JB y.1 (ps.length-y.1) L E (p) (q) y.2.2.length 0 P),(4, .rows 1 (y.2.2.map Zc)),(5, .rows 1 []),(6, .rows 1 (y.2.1.map Zc))]) 7 (fun y=>ps.length-y.1) (i+1+1,[],[]) ⟨by simp only;omega,by simp,by simp,rfl⟩ ?_;conv=>whnf
   try rw[show ps.length-(i+1+1)=k2 by omega]
   refine⟨by exact GOES.kA h0 [2,3,4],?_⟩;rintro⟨a,seen,vs⟩ ⟨ha,hs,hv,hx⟩;dsimp only at ha hs hv hx⊢;conv=>whnf
   refine CALL.hA (XR 264 _ ps (fun s hs=>Vy s (hsm s hs)) a (ps.length-a) (by omega) L E (p) (q) vs.length 0 P) ?_ ?_
   ·rintro r O' nx' ⟨rfl,rfl,rfl⟩;exact⟨rfl,rfl,rfl⟩
   rintro r O' ⟨rfl,rfl,_⟩;conv=>whnf
   refine IF.mk (fun h=>?_) (fun h=>?_)
   ·obtain⟨w,hw,hwm⟩:=ZK h;have hlt:=(List.getElem?_eq_some_iff.1 hw).1;obtain⟨k',hk'⟩:∃k',ps.length-a=k'+1:=⟨ps.length-a-1,by omega⟩;have hpl:=hsm w (List.mem_of_getElem? hw)
    have hxa:YN seen (ps.drop a)=if Z4 w∈seen then none else YN (seen++ [Z4 w]) (ps.drop (a+1)):=by
     rw[ZU hw];simp only[YN];rw[if_pos hwm]
    rw[hk'];conv=>whnf
    refine CALL.hA (Y0 ps a k' (by omega) w hw L E (p) (q) vs.length 0 P) ?_ ?_
    ·rintro r O' nx' ⟨rfl,rfl,rfl⟩;exact⟨rfl,rfl,rfl⟩
    rintro r O' ⟨rfl,rfl,_⟩;conv=>whnf
    repeat'((first|refine CALL.value (Xr _ hpl) rfl rfl ?_|(refine CALL.look1 6 (YD seen (Z4 w) (by omega)) rfl rfl rfl rfl (Yh _) rfl ?_;conv=>whnf)|refine AU ?_|(refine IW ?_ ?_<;>intro h<;>try(exfalso;omega)))<;>conv=>whnf)
    ·have hin:Z4 w∈seen:=by simpa using h
     have hn:Xv (ps.drop i)=none:=by unfold Xv;rw[he,hx,hxa,if_pos hin]
     exact FIN.loose h0 0 [.sl (.loc 1) (a+1) 1 (k') none, .str L, .str E, .str (p), .str (q), .any, .any, .str P] rfl rfl rfl ⟨.inr ⟨rfl,rfl⟩, .inr ⟨rfl,rfl⟩, .inr ⟨rfl,rfl⟩, .inr ⟨rfl,rfl⟩, .inr ⟨rfl,rfl⟩, .inl rfl, .inl rfl, .inr ⟨rfl,rfl⟩,trivial⟩ ⟨a+1,k',p,q,by omega,by rw[hn];rfl,by simp[hn],rfl,rfl⟩
    ·have hin:¬Z4 w∈seen:=by simpa using h
     refine⟨(a+1,seen++ [Z4 w],vs++ [w]),⟨by simp only;omega,by simp;omega,by simp;omega,by simp only;rw[hx,hxa,if_neg hin]⟩,by simp only;omega,?_⟩;dsimp only;rw[show ps.length-(a+1)=k' by omega,show(vs++ [w]).length=vs.length+1 by simp];conv=>whnf
     exact GOES.kA h0 [10,5,8]
   ·have hv0:YN seen (ps.drop a)=some (ps.drop a,seen):=by
     rcases XK h with h|⟨s,_,h1,h2⟩
     ·rw[h];rfl
     ·rw[h1];simp only[YN];rw[if_neg (by simp[h2])]
    have hr0:Xv (ps.drop i)=ZZ seen (ps.drop a):=by unfold Xv;rw[he,hx,hv0]
    conv=>whnf
    refine LOOP.go Z0 [0] (X:=Nat×List (List UInt8)×List (List UInt8)) (fun y=>y.1<=ps.length/\y.2.1.length<=y.1/\y.2.2.length<=y.1/\Xv (ps.drop i)=ZZ y.2.1 (ps.drop y.1)) (fun y=>[(3, .sl (.loc 6) 0 1 y.2.1.length none)]) (fun y=>[(0,JB y.1 (ps.length-y.1) L E (p) (q) vs.length y.2.2.length P),(4, .rows 1 (vs.map Zc)),(5, .rows 1 (y.2.2.map Zc)),(6, .rows 1 (y.2.1.map Zc))]) 7 (fun y=>ps.length-y.1) (a,seen,[]) ⟨by simp only;omega,by simp only;omega,by simp,hr0⟩ ?_;conv=>whnf
    refine⟨by exact GOES.kA h0 [4,5,6],?_⟩;clear hr0 hv0 hx hs hv;rintro⟨a,seen,xs⟩ ⟨ha,hs,hv,hx⟩;dsimp only at ha hs hv hx⊢;conv=>whnf
    refine CALL.hA (XR 266 _ ps (fun s hs=>Ws s (hsm s hs)) a (ps.length-a) (by omega) L E (p) (q) vs.length xs.length P) ?_ ?_
    ·rintro r O' nx' ⟨rfl,rfl,rfl⟩;exact⟨rfl,rfl,rfl⟩
    rintro r O' ⟨rfl,rfl,_⟩;conv=>whnf
    refine IF.mk (fun h=>?_) (fun h=>?_)
    ·obtain⟨w,hw,hwm⟩:=ZK h;have hlt:=(List.getElem?_eq_some_iff.1 hw).1;obtain⟨k',hk'⟩:∃k',ps.length-a=k'+1:=⟨ps.length-a-1,by omega⟩;have hpl:=hsm w (List.mem_of_getElem? hw);rw[hk'];conv=>whnf
     refine CALL.hA (Y0 ps a k' (by omega) w hw L E (p) (q) vs.length xs.length P) ?_ ?_
     ·rintro r O' nx' ⟨rfl,rfl,rfl⟩;exact⟨rfl,rfl,rfl⟩
     rintro r O' ⟨rfl,rfl,_⟩;conv=>whnf
     refine CALL.hA (Wt 2 ps (by omega) (a+1) k' (by omega) L E (p) (q) vs.length xs.length P) ?_ ?_
     ·rintro r O' nx' ⟨n,s,_,_,rfl,rfl,rfl⟩;exact⟨rfl,rfl,rfl⟩
     rintro r O' ⟨n,s,hn,hsl,rfl,rfl,_⟩;have hnle:n<=(ps.drop (a+1)).length:=by rw[hn];exact VI _ _
     rw[List.length_drop]at hnle
     have hxa:ZZ seen (ps.drop a)=if n=0\/Z4 w∈seen then none else ZZ (seen++ [Z4 w]) (ps.drop (a+1+n)):=by
      rw[ZU hw,ZZ,if_pos hwm,<-hn,List.drop_drop]
     conv=>whnf
     refine IF.mk (fun h1=>?_) (fun h1=>?_)
     ·have h0n:n=0:=by simpa using h1
      have hn:Xv (ps.drop i)=none:=by rw[hx,hxa,if_pos (.inl h0n)]
      conv=>whnf
      repeat'((first|refine AU ?_|(refine IW ?_ ?_<;>intro h<;>try(exfalso;omega)))<;>conv=>whnf)
      exact FIN.loose h0 0 [.sl (.loc 1) (a+1+n) 1 (k'-n) none, .str L, .str E, .str (p), .str (q), .any, .any, .str P] rfl rfl rfl ⟨.inr ⟨rfl,rfl⟩, .inr ⟨rfl,rfl⟩, .inr ⟨rfl,rfl⟩, .inr ⟨rfl,rfl⟩, .inr ⟨rfl,rfl⟩, .inl rfl, .inl rfl, .inr ⟨rfl,rfl⟩,trivial⟩ ⟨a+1+n,k'-n,p,q,by omega,by rw[hn];rfl,by simp[hn],rfl,rfl⟩
     ·have h0n:n≠0:=by simpa using h1
      conv=>whnf
      repeat'((first|refine CALL.value (Xr _ hpl) rfl rfl ?_|(refine CALL.look1 6 (YD seen (Z4 w) (by omega)) rfl rfl rfl rfl (Yh _) rfl ?_;conv=>whnf)|refine AU ?_|(refine IW ?_ ?_<;>intro h<;>try(exfalso;omega)))<;>conv=>whnf)
      ·have hin:Z4 w∈seen:=by simp_all
       have hn:Xv (ps.drop i)=none:=by rw[hx,hxa,if_pos (.inr hin)]
       exact FIN.loose h0 0 [.sl (.loc 1) (a+1+n) 1 (k'-n) none, .str L, .str E, .str (p), .str (q), .any, .any, .str P] rfl rfl rfl ⟨.inr ⟨rfl,rfl⟩, .inr ⟨rfl,rfl⟩, .inr ⟨rfl,rfl⟩, .inr ⟨rfl,rfl⟩, .inr ⟨rfl,rfl⟩, .inl rfl, .inl rfl, .inr ⟨rfl,rfl⟩,trivial⟩ ⟨a+1+n,k'-n,p,q,by omega,by rw[hn];rfl,by simp[hn],rfl,rfl⟩
      ·have hin:¬Z4 w∈seen:=by simp_all
       refine⟨(a+1+n,seen++ [Z4 w],xs++ [w++s]),⟨by simp only;omega,by simp;omega,by simp;omega,by simp only;rw[hx,hxa,if_neg (by simp[h0n,hin])]⟩,by simp only;omega,?_⟩;dsimp only;rw[show ps.length-(a+1+n)=k'-n by omega,show(xs++ [w++s]).length=xs.length+1 by simp];conv=>whnf
       exact GOES.kA h0 [4,10,8]
    ·have hv0:ZZ seen (ps.drop a)=some (ps.drop a):=by
      rcases XK h with h|⟨s,_,h1,h2⟩
      ·rw[h,ZZ]
      ·rw[h1,ZZ,if_neg (by simp[h2])]
     conv=>whnf
     exact FIN.loose h0 0 [.sl (.loc 1) (a) 1 (ps.length-a) none, .str L, .str E, .str (p), .str (q), .any, .any, .str P] rfl rfl rfl ⟨.inr ⟨rfl,rfl⟩, .inr ⟨rfl,rfl⟩, .inr ⟨rfl,rfl⟩, .inr ⟨rfl,rfl⟩, .inr ⟨rfl,rfl⟩, .inl rfl, .inl rfl, .inr ⟨rfl,rfl⟩,trivial⟩ ⟨a,ps.length-a,p,q,by omega,by rw[hx,hv0];rfl,by rw[hx,hv0];rintro l ⟨⟩;rfl,rfl,rfl⟩
  ·have he:J9 Xj (J9 (fun s=>ZD s 4 4 true) (ps.drop i))=ps.drop (i+1):=by rw[hk1,Z1j h1]
   conv=>whnf
   refine LOOP.nil 3 1 rfl ?_;refine LOOP.go Z0 [0] (X:=Nat×List (List UInt8)×List (List UInt8)) (fun y=>y.1<=ps.length/\y.2.1.length<=y.1/\y.2.2.length<=y.1/\YN [] (ps.drop (i+1))=YN y.2.1 (ps.drop y.1)) (fun y=>[(3, .sl (.loc 6) 0 1 y.2.1.length none)]) (fun y=>[(0,JB y.1 (ps.length-y.1) L E (p) ([]) y.2.2.length 0 P),(4, .rows 1 (y.2.2.map Zc)),(5, .rows 1 []),(6, .rows 1 (y.2.1.map Zc))]) 7 (fun y=>ps.length-y.1) (i+1,[],[]) ⟨by simp only;omega,by simp,by simp,rfl⟩ ?_;conv=>whnf
   try rw[show ps.length-(i+1)=k by omega]
   refine⟨by exact GOES.kA h0 [2,3,4],?_⟩;rintro⟨a,seen,vs⟩ ⟨ha,hs,hv,hx⟩;dsimp only at ha hs hv hx⊢;conv=>whnf
   refine CALL.hA (XR 264 _ ps (fun s hs=>Vy s (hsm s hs)) a (ps.length-a) (by omega) L E (p) ([]) vs.length 0 P) ?_ ?_
   ·rintro r O' nx' ⟨rfl,rfl,rfl⟩;exact⟨rfl,rfl,rfl⟩
   rintro r O' ⟨rfl,rfl,_⟩;conv=>whnf
   refine IF.mk (fun h=>?_) (fun h=>?_)
   ·obtain⟨w,hw,hwm⟩:=ZK h;have hlt:=(List.getElem?_eq_some_iff.1 hw).1;obtain⟨k',hk'⟩:∃k',ps.length-a=k'+1:=⟨ps.length-a-1,by omega⟩;have hpl:=hsm w (List.mem_of_getElem? hw)
    have hxa:YN seen (ps.drop a)=if Z4 w∈seen then none else YN (seen++ [Z4 w]) (ps.drop (a+1)):=by
     rw[ZU hw];simp only[YN];rw[if_pos hwm]
    rw[hk'];conv=>whnf
    refine CALL.hA (Y0 ps a k' (by omega) w hw L E (p) ([]) vs.length 0 P) ?_ ?_
    ·rintro r O' nx' ⟨rfl,rfl,rfl⟩;exact⟨rfl,rfl,rfl⟩
    rintro r O' ⟨rfl,rfl,_⟩;conv=>whnf
    repeat'((first|refine CALL.value (Xr _ hpl) rfl rfl ?_|(refine CALL.look1 6 (YD seen (Z4 w) (by omega)) rfl rfl rfl rfl (Yh _) rfl ?_;conv=>whnf)|refine AU ?_|(refine IW ?_ ?_<;>intro h<;>try(exfalso;omega)))<;>conv=>whnf)
    ·have hin:Z4 w∈seen:=by simpa using h
     have hn:Xv (ps.drop i)=none:=by unfold Xv;rw[he,hx,hxa,if_pos hin]
     exact FIN.loose h0 0 [.sl (.loc 1) (a+1) 1 (k') none, .str L, .str E, .str (p), .str ([]), .any, .any, .str P] rfl rfl rfl ⟨.inr ⟨rfl,rfl⟩, .inr ⟨rfl,rfl⟩, .inr ⟨rfl,rfl⟩, .inr ⟨rfl,rfl⟩, .inr ⟨rfl,rfl⟩, .inl rfl, .inl rfl, .inr ⟨rfl,rfl⟩,trivial⟩ ⟨a+1,k',p,[],by omega,by rw[hn];rfl,by simp[hn],rfl,rfl⟩
    ·have hin:¬Z4 w∈seen:=by simpa using h
     refine⟨(a+1,seen++ [Z4 w],vs++ [w]),⟨by simp only;omega,by simp;omega,by simp;omega,by simp only;rw[hx,hxa,if_neg hin]⟩,by simp only;omega,?_⟩;dsimp only;rw[show ps.length-(a+1)=k' by omega,show(vs++ [w]).length=vs.length+1 by simp];conv=>whnf
     exact GOES.kA h0 [10,5,8]
   ·have hv0:YN seen (ps.drop a)=some (ps.drop a,seen):=by
     rcases XK h with h|⟨s,_,h1,h2⟩
     ·rw[h];rfl
     ·rw[h1];simp only[YN];rw[if_neg (by simp[h2])]
    have hr0:Xv (ps.drop i)=ZZ seen (ps.drop a):=by unfold Xv;rw[he,hx,hv0]
    conv=>whnf
    refine LOOP.go Z0 [0] (X:=Nat×List (List UInt8)×List (List UInt8)) (fun y=>y.1<=ps.length/\y.2.1.length<=y.1/\y.2.2.length<=y.1/\Xv (ps.drop i)=ZZ y.2.1 (ps.drop y.1)) (fun y=>[(3, .sl (.loc 6) 0 1 y.2.1.length none)]) (fun y=>[(0,JB y.1 (ps.length-y.1) L E (p) ([]) vs.length y.2.2.length P),(4, .rows 1 (vs.map Zc)),(5, .rows 1 (y.2.2.map Zc)),(6, .rows 1 (y.2.1.map Zc))]) 7 (fun y=>ps.length-y.1) (a,seen,[]) ⟨by simp only;omega,by simp only;omega,by simp,hr0⟩ ?_;conv=>whnf
    refine⟨by exact GOES.kA h0 [4,5,6],?_⟩;clear hr0 hv0 hx hs hv;rintro⟨a,seen,xs⟩ ⟨ha,hs,hv,hx⟩;dsimp only at ha hs hv hx⊢;conv=>whnf
    refine CALL.hA (XR 266 _ ps (fun s hs=>Ws s (hsm s hs)) a (ps.length-a) (by omega) L E (p) ([]) vs.length xs.length P) ?_ ?_
    ·rintro r O' nx' ⟨rfl,rfl,rfl⟩;exact⟨rfl,rfl,rfl⟩
    rintro r O' ⟨rfl,rfl,_⟩;conv=>whnf
    refine IF.mk (fun h=>?_) (fun h=>?_)
    ·obtain⟨w,hw,hwm⟩:=ZK h;have hlt:=(List.getElem?_eq_some_iff.1 hw).1;obtain⟨k',hk'⟩:∃k',ps.length-a=k'+1:=⟨ps.length-a-1,by omega⟩;have hpl:=hsm w (List.mem_of_getElem? hw);rw[hk'];conv=>whnf
     refine CALL.hA (Y0 ps a k' (by omega) w hw L E (p) ([]) vs.length xs.length P) ?_ ?_
     ·rintro r O' nx' ⟨rfl,rfl,rfl⟩;exact⟨rfl,rfl,rfl⟩
     rintro r O' ⟨rfl,rfl,_⟩;conv=>whnf
     refine CALL.hA (Wt 2 ps (by omega) (a+1) k' (by omega) L E (p) ([]) vs.length xs.length P) ?_ ?_
     ·rintro r O' nx' ⟨n,s,_,_,rfl,rfl,rfl⟩;exact⟨rfl,rfl,rfl⟩
     rintro r O' ⟨n,s,hn,hsl,rfl,rfl,_⟩;have hnle:n<=(ps.drop (a+1)).length:=by rw[hn];exact VI _ _
     rw[List.length_drop]at hnle
     have hxa:ZZ seen (ps.drop a)=if n=0\/Z4 w∈seen then none else ZZ (seen++ [Z4 w]) (ps.drop (a+1+n)):=by
      rw[ZU hw,ZZ,if_pos hwm,<-hn,List.drop_drop]
     conv=>whnf
     refine IF.mk (fun h1=>?_) (fun h1=>?_)
     ·have h0n:n=0:=by simpa using h1
      have hn:Xv (ps.drop i)=none:=by rw[hx,hxa,if_pos (.inl h0n)]
      conv=>whnf
      repeat'((first|refine AU ?_|(refine IW ?_ ?_<;>intro h<;>try(exfalso;omega)))<;>conv=>whnf)
      exact FIN.loose h0 0 [.sl (.loc 1) (a+1+n) 1 (k'-n) none, .str L, .str E, .str (p), .str ([]), .any, .any, .str P] rfl rfl rfl ⟨.inr ⟨rfl,rfl⟩, .inr ⟨rfl,rfl⟩, .inr ⟨rfl,rfl⟩, .inr ⟨rfl,rfl⟩, .inr ⟨rfl,rfl⟩, .inl rfl, .inl rfl, .inr ⟨rfl,rfl⟩,trivial⟩ ⟨a+1+n,k'-n,p,[],by omega,by rw[hn];rfl,by simp[hn],rfl,rfl⟩
     ·have h0n:n≠0:=by simpa using h1
      conv=>whnf
      repeat'((first|refine CALL.value (Xr _ hpl) rfl rfl ?_|(refine CALL.look1 6 (YD seen (Z4 w) (by omega)) rfl rfl rfl rfl (Yh _) rfl ?_;conv=>whnf)|refine AU ?_|(refine IW ?_ ?_<;>intro h<;>try(exfalso;omega)))<;>conv=>whnf)
      ·have hin:Z4 w∈seen:=by simp_all
       have hn:Xv (ps.drop i)=none:=by rw[hx,hxa,if_pos (.inr hin)]
       exact FIN.loose h0 0 [.sl (.loc 1) (a+1+n) 1 (k'-n) none, .str L, .str E, .str (p), .str ([]), .any, .any, .str P] rfl rfl rfl ⟨.inr ⟨rfl,rfl⟩, .inr ⟨rfl,rfl⟩, .inr ⟨rfl,rfl⟩, .inr ⟨rfl,rfl⟩, .inr ⟨rfl,rfl⟩, .inl rfl, .inl rfl, .inr ⟨rfl,rfl⟩,trivial⟩ ⟨a+1+n,k'-n,p,[],by omega,by rw[hn];rfl,by simp[hn],rfl,rfl⟩
      ·have hin:¬Z4 w∈seen:=by simp_all
       refine⟨(a+1+n,seen++ [Z4 w],xs++ [w++s]),⟨by simp only;omega,by simp;omega,by simp;omega,by simp only;rw[hx,hxa,if_neg (by simp[h0n,hin])]⟩,by simp only;omega,?_⟩;dsimp only;rw[show ps.length-(a+1+n)=k'-n by omega,show(xs++ [w++s]).length=xs.length+1 by simp];conv=>whnf
       exact GOES.kA h0 [4,10,8]
    ·have hv0:ZZ seen (ps.drop a)=some (ps.drop a):=by
      rcases XK h with h|⟨s,_,h1,h2⟩
      ·rw[h,ZZ]
      ·rw[h1,ZZ,if_neg (by simp[h2])]
     conv=>whnf
     exact FIN.loose h0 0 [.sl (.loc 1) (a) 1 (ps.length-a) none, .str L, .str E, .str (p), .str ([]), .any, .any, .str P] rfl rfl rfl ⟨.inr ⟨rfl,rfl⟩, .inr ⟨rfl,rfl⟩, .inr ⟨rfl,rfl⟩, .inr ⟨rfl,rfl⟩, .inr ⟨rfl,rfl⟩, .inl rfl, .inl rfl, .inr ⟨rfl,rfl⟩,trivial⟩ ⟨a,ps.length-a,p,[],by omega,by rw[hx,hv0];rfl,by rw[hx,hv0];rintro l ⟨⟩;rfl,rfl,rfl⟩
 ·have hk1:=Z1j h1;conv=>whnf
  refine CALL.hA (Vi 263 _ ps (fun s hs=>Z3P s (hsm s hs)) i m (by omega) L E [] [] 0 0 P) ?_ ?_
  ·rintro r O' nx' ⟨rfl,rfl,rfl⟩;exact⟨rfl,rfl,rfl⟩
  rintro r O' ⟨rfl,rfl,_⟩;conv=>whnf
  refine IF.mk (fun h1=>?_) (fun h1=>?_)
  ·obtain⟨q,hq,hqm⟩:=ZK h1;have hlt:=(List.getElem?_eq_some_iff.1 hq).1;obtain⟨k2,rfl⟩:∃k2,m=k2+1:=⟨m-1,by omega⟩;have he:J9 Xj (J9 (fun s=>ZD s 4 4 true) (ps.drop i))=ps.drop (i+1):=by rw[hk1,Vz hq hqm]
   conv=>whnf
   refine CALL.hA (YC ps i k2 (by omega) q hq L E [] [] 0 0 P) ?_ ?_
   ·rintro r O' nx' ⟨rfl,rfl,rfl⟩;exact⟨rfl,rfl,rfl⟩
   rintro r O' ⟨rfl,rfl,_⟩;conv=>whnf
   refine LOOP.nil 3 1 rfl ?_;refine LOOP.go Z0 [0] (X:=Nat×List (List UInt8)×List (List UInt8)) (fun y=>y.1<=ps.length/\y.2.1.length<=y.1/\y.2.2.length<=y.1/\YN [] (ps.drop (i+1))=YN y.2.1 (ps.drop y.1)) (fun y=>[(3, .sl (.loc 6) 0 1 y.2.1.length none)]) (fun y=>[(0,JB y.1 (ps.length-y.1) L E ([]) (q) y.2.2.length 0 P),(4, .rows 1 (y.2.2.map Zc)),(5, .rows 1 []),(6, .rows 1 (y.2.1.map Zc))]) 7 (fun y=>ps.length-y.1) (i+1,[],[]) ⟨by simp only;omega,by simp,by simp,rfl⟩ ?_;conv=>whnf
   try rw[show ps.length-(i+1)=k2 by omega]
   refine⟨by exact GOES.kA h0 [2,3,4],?_⟩;rintro⟨a,seen,vs⟩ ⟨ha,hs,hv,hx⟩;dsimp only at ha hs hv hx⊢;conv=>whnf
   refine CALL.hA (XR 264 _ ps (fun s hs=>Vy s (hsm s hs)) a (ps.length-a) (by omega) L E ([]) (q) vs.length 0 P) ?_ ?_
   ·rintro r O' nx' ⟨rfl,rfl,rfl⟩;exact⟨rfl,rfl,rfl⟩
   rintro r O' ⟨rfl,rfl,_⟩;conv=>whnf
   refine IF.mk (fun h=>?_) (fun h=>?_)
   ·obtain⟨w,hw,hwm⟩:=ZK h;have hlt:=(List.getElem?_eq_some_iff.1 hw).1;obtain⟨k',hk'⟩:∃k',ps.length-a=k'+1:=⟨ps.length-a-1,by omega⟩;have hpl:=hsm w (List.mem_of_getElem? hw)
    have hxa:YN seen (ps.drop a)=if Z4 w∈seen then none else YN (seen++ [Z4 w]) (ps.drop (a+1)):=by
     rw[ZU hw];simp only[YN];rw[if_pos hwm]
    rw[hk'];conv=>whnf
    refine CALL.hA (Y0 ps a k' (by omega) w hw L E ([]) (q) vs.length 0 P) ?_ ?_
    ·rintro r O' nx' ⟨rfl,rfl,rfl⟩;exact⟨rfl,rfl,rfl⟩
    rintro r O' ⟨rfl,rfl,_⟩;conv=>whnf
    repeat'((first|refine CALL.value (Xr _ hpl) rfl rfl ?_|(refine CALL.look1 6 (YD seen (Z4 w) (by omega)) rfl rfl rfl rfl (Yh _) rfl ?_;conv=>whnf)|refine AU ?_|(refine IW ?_ ?_<;>intro h<;>try(exfalso;omega)))<;>conv=>whnf)
    ·have hin:Z4 w∈seen:=by simpa using h
     have hn:Xv (ps.drop i)=none:=by unfold Xv;rw[he,hx,hxa,if_pos hin]
     exact FIN.loose h0 0 [.sl (.loc 1) (a+1) 1 (k') none, .str L, .str E, .str ([]), .str (q), .any, .any, .str P] rfl rfl rfl ⟨.inr ⟨rfl,rfl⟩, .inr ⟨rfl,rfl⟩, .inr ⟨rfl,rfl⟩, .inr ⟨rfl,rfl⟩, .inr ⟨rfl,rfl⟩, .inl rfl, .inl rfl, .inr ⟨rfl,rfl⟩,trivial⟩ ⟨a+1,k',[],q,by omega,by rw[hn];rfl,by simp[hn],rfl,rfl⟩
    ·have hin:¬Z4 w∈seen:=by simpa using h
     refine⟨(a+1,seen++ [Z4 w],vs++ [w]),⟨by simp only;omega,by simp;omega,by simp;omega,by simp only;rw[hx,hxa,if_neg hin]⟩,by simp only;omega,?_⟩;dsimp only;rw[show ps.length-(a+1)=k' by omega,show(vs++ [w]).length=vs.length+1 by simp];conv=>whnf
     exact GOES.kA h0 [10,5,8]
   ·have hv0:YN seen (ps.drop a)=some (ps.drop a,seen):=by
     rcases XK h with h|⟨s,_,h1,h2⟩
     ·rw[h];rfl
     ·rw[h1];simp only[YN];rw[if_neg (by simp[h2])]
    have hr0:Xv (ps.drop i)=ZZ seen (ps.drop a):=by unfold Xv;rw[he,hx,hv0]
    conv=>whnf
    refine LOOP.go Z0 [0] (X:=Nat×List (List UInt8)×List (List UInt8)) (fun y=>y.1<=ps.length/\y.2.1.length<=y.1/\y.2.2.length<=y.1/\Xv (ps.drop i)=ZZ y.2.1 (ps.drop y.1)) (fun y=>[(3, .sl (.loc 6) 0 1 y.2.1.length none)]) (fun y=>[(0,JB y.1 (ps.length-y.1) L E ([]) (q) vs.length y.2.2.length P),(4, .rows 1 (vs.map Zc)),(5, .rows 1 (y.2.2.map Zc)),(6, .rows 1 (y.2.1.map Zc))]) 7 (fun y=>ps.length-y.1) (a,seen,[]) ⟨by simp only;omega,by simp only;omega,by simp,hr0⟩ ?_;conv=>whnf
    refine⟨by exact GOES.kA h0 [4,5,6],?_⟩;clear hr0 hv0 hx hs hv;rintro⟨a,seen,xs⟩ ⟨ha,hs,hv,hx⟩;dsimp only at ha hs hv hx⊢;conv=>whnf
    refine CALL.hA (XR 266 _ ps (fun s hs=>Ws s (hsm s hs)) a (ps.length-a) (by omega) L E ([]) (q) vs.length xs.length P) ?_ ?_
    ·rintro r O' nx' ⟨rfl,rfl,rfl⟩;exact⟨rfl,rfl,rfl⟩
    rintro r O' ⟨rfl,rfl,_⟩;conv=>whnf
    refine IF.mk (fun h=>?_) (fun h=>?_)
    ·obtain⟨w,hw,hwm⟩:=ZK h;have hlt:=(List.getElem?_eq_some_iff.1 hw).1;obtain⟨k',hk'⟩:∃k',ps.length-a=k'+1:=⟨ps.length-a-1,by omega⟩;have hpl:=hsm w (List.mem_of_getElem? hw);rw[hk'];conv=>whnf
     refine CALL.hA (Y0 ps a k' (by omega) w hw L E ([]) (q) vs.length xs.length P) ?_ ?_
     ·rintro r O' nx' ⟨rfl,rfl,rfl⟩;exact⟨rfl,rfl,rfl⟩
     rintro r O' ⟨rfl,rfl,_⟩;conv=>whnf
     refine CALL.hA (Wt 2 ps (by omega) (a+1) k' (by omega) L E ([]) (q) vs.length xs.length P) ?_ ?_
     ·rintro r O' nx' ⟨n,s,_,_,rfl,rfl,rfl⟩;exact⟨rfl,rfl,rfl⟩
     rintro r O' ⟨n,s,hn,hsl,rfl,rfl,_⟩;have hnle:n<=(ps.drop (a+1)).length:=by rw[hn];exact VI _ _
     rw[List.length_drop]at hnle
     have hxa:ZZ seen (ps.drop a)=if n=0\/Z4 w∈seen then none else ZZ (seen++ [Z4 w]) (ps.drop (a+1+n)):=by
      rw[ZU hw,ZZ,if_pos hwm,<-hn,List.drop_drop]
     conv=>whnf
     refine IF.mk (fun h1=>?_) (fun h1=>?_)
     ·have h0n:n=0:=by simpa using h1
      have hn:Xv (ps.drop i)=none:=by rw[hx,hxa,if_pos (.inl h0n)]
      conv=>whnf
      repeat'((first|refine AU ?_|(refine IW ?_ ?_<;>intro h<;>try(exfalso;omega)))<;>conv=>whnf)
      exact FIN.loose h0 0 [.sl (.loc 1) (a+1+n) 1 (k'-n) none, .str L, .str E, .str ([]), .str (q), .any, .any, .str P] rfl rfl rfl ⟨.inr ⟨rfl,rfl⟩, .inr ⟨rfl,rfl⟩, .inr ⟨rfl,rfl⟩, .inr ⟨rfl,rfl⟩, .inr ⟨rfl,rfl⟩, .inl rfl, .inl rfl, .inr ⟨rfl,rfl⟩,trivial⟩ ⟨a+1+n,k'-n,[],q,by omega,by rw[hn];rfl,by simp[hn],rfl,rfl⟩
     ·have h0n:n≠0:=by simpa using h1
      conv=>whnf
      repeat'((first|refine CALL.value (Xr _ hpl) rfl rfl ?_|(refine CALL.look1 6 (YD seen (Z4 w) (by omega)) rfl rfl rfl rfl (Yh _) rfl ?_;conv=>whnf)|refine AU ?_|(refine IW ?_ ?_<;>intro h<;>try(exfalso;omega)))<;>conv=>whnf)
      ·have hin:Z4 w∈seen:=by simp_all
       have hn:Xv (ps.drop i)=none:=by rw[hx,hxa,if_pos (.inr hin)]
       exact FIN.loose h0 0 [.sl (.loc 1) (a+1+n) 1 (k'-n) none, .str L, .str E, .str ([]), .str (q), .any, .any, .str P] rfl rfl rfl ⟨.inr ⟨rfl,rfl⟩, .inr ⟨rfl,rfl⟩, .inr ⟨rfl,rfl⟩, .inr ⟨rfl,rfl⟩, .inr ⟨rfl,rfl⟩, .inl rfl, .inl rfl, .inr ⟨rfl,rfl⟩,trivial⟩ ⟨a+1+n,k'-n,[],q,by omega,by rw[hn];rfl,by simp[hn],rfl,rfl⟩
      ·have hin:¬Z4 w∈seen:=by simp_all
       refine⟨(a+1+n,seen++ [Z4 w],xs++ [w++s]),⟨by simp only;omega,by simp;omega,by simp;omega,by simp only;rw[hx,hxa,if_neg (by simp[h0n,hin])]⟩,by simp only;omega,?_⟩;dsimp only;rw[show ps.length-(a+1+n)=k'-n by omega,show(xs++ [w++s]).length=xs.length+1 by simp];conv=>whnf
       exact GOES.kA h0 [4,10,8]
    ·have hv0:ZZ seen (ps.drop a)=some (ps.drop a):=by
      rcases XK h with h|⟨s,_,h1,h2⟩
      ·rw[h,ZZ]
      ·rw[h1,ZZ,if_neg (by simp[h2])]
     conv=>whnf
     exact FIN.loose h0 0 [.sl (.loc 1) (a) 1 (ps.length-a) none, .str L, .str E, .str ([]), .str (q), .any, .any, .str P] rfl rfl rfl ⟨.inr ⟨rfl,rfl⟩, .inr ⟨rfl,rfl⟩, .inr ⟨rfl,rfl⟩, .inr ⟨rfl,rfl⟩, .inr ⟨rfl,rfl⟩, .inl rfl, .inl rfl, .inr ⟨rfl,rfl⟩,trivial⟩ ⟨a,ps.length-a,[],q,by omega,by rw[hx,hv0];rfl,by rw[hx,hv0];rintro l ⟨⟩;rfl,rfl,rfl⟩
  ·have he:J9 Xj (J9 (fun s=>ZD s 4 4 true) (ps.drop i))=ps.drop i:=by rw[hk1,Z1j h1]
   conv=>whnf
   refine LOOP.nil 3 1 rfl ?_;refine LOOP.go Z0 [0] (X:=Nat×List (List UInt8)×List (List UInt8)) (fun y=>y.1<=ps.length/\y.2.1.length<=y.1/\y.2.2.length<=y.1/\YN [] (ps.drop (i))=YN y.2.1 (ps.drop y.1)) (fun y=>[(3, .sl (.loc 6) 0 1 y.2.1.length none)]) (fun y=>[(0,JB y.1 (ps.length-y.1) L E ([]) ([]) y.2.2.length 0 P),(4, .rows 1 (y.2.2.map Zc)),(5, .rows 1 []),(6, .rows 1 (y.2.1.map Zc))]) 7 (fun y=>ps.length-y.1) (i,[],[]) ⟨by simp only;omega,by simp,by simp,rfl⟩ ?_;conv=>whnf
   try rw[show ps.length-(i)=m by omega]
   refine⟨by exact GOES.kA h0 [2,3,4],?_⟩;rintro⟨a,seen,vs⟩ ⟨ha,hs,hv,hx⟩;dsimp only at ha hs hv hx⊢;conv=>whnf
   refine CALL.hA (XR 264 _ ps (fun s hs=>Vy s (hsm s hs)) a (ps.length-a) (by omega) L E ([]) ([]) vs.length 0 P) ?_ ?_
   ·rintro r O' nx' ⟨rfl,rfl,rfl⟩;exact⟨rfl,rfl,rfl⟩
   rintro r O' ⟨rfl,rfl,_⟩;conv=>whnf
   refine IF.mk (fun h=>?_) (fun h=>?_)
   ·obtain⟨w,hw,hwm⟩:=ZK h;have hlt:=(List.getElem?_eq_some_iff.1 hw).1;obtain⟨k',hk'⟩:∃k',ps.length-a=k'+1:=⟨ps.length-a-1,by omega⟩;have hpl:=hsm w (List.mem_of_getElem? hw)
    have hxa:YN seen (ps.drop a)=if Z4 w∈seen then none else YN (seen++ [Z4 w]) (ps.drop (a+1)):=by
     rw[ZU hw];simp only[YN];rw[if_pos hwm]
    rw[hk'];conv=>whnf
    refine CALL.hA (Y0 ps a k' (by omega) w hw L E ([]) ([]) vs.length 0 P) ?_ ?_
    ·rintro r O' nx' ⟨rfl,rfl,rfl⟩;exact⟨rfl,rfl,rfl⟩
    rintro r O' ⟨rfl,rfl,_⟩;conv=>whnf
    repeat'((first|refine CALL.value (Xr _ hpl) rfl rfl ?_|(refine CALL.look1 6 (YD seen (Z4 w) (by omega)) rfl rfl rfl rfl (Yh _) rfl ?_;conv=>whnf)|refine AU ?_|(refine IW ?_ ?_<;>intro h<;>try(exfalso;omega)))<;>conv=>whnf)
    ·have hin:Z4 w∈seen:=by simpa using h
     have hn:Xv (ps.drop i)=none:=by unfold Xv;rw[he,hx,hxa,if_pos hin]
     exact FIN.loose h0 0 [.sl (.loc 1) (a+1) 1 (k') none, .str L, .str E, .str ([]), .str ([]), .any, .any, .str P] rfl rfl rfl ⟨.inr ⟨rfl,rfl⟩, .inr ⟨rfl,rfl⟩, .inr ⟨rfl,rfl⟩, .inr ⟨rfl,rfl⟩, .inr ⟨rfl,rfl⟩, .inl rfl, .inl rfl, .inr ⟨rfl,rfl⟩,trivial⟩ ⟨a+1,k',[],[],by omega,by rw[hn];rfl,by simp[hn],rfl,rfl⟩
    ·have hin:¬Z4 w∈seen:=by simpa using h
     refine⟨(a+1,seen++ [Z4 w],vs++ [w]),⟨by simp only;omega,by simp;omega,by simp;omega,by simp only;rw[hx,hxa,if_neg hin]⟩,by simp only;omega,?_⟩;dsimp only;rw[show ps.length-(a+1)=k' by omega,show(vs++ [w]).length=vs.length+1 by simp];conv=>whnf
     exact GOES.kA h0 [10,5,8]
   ·have hv0:YN seen (ps.drop a)=some (ps.drop a,seen):=by
     rcases XK h with h|⟨s,_,h1,h2⟩
     ·rw[h];rfl
     ·rw[h1];simp only[YN];rw[if_neg (by simp[h2])]
    have hr0:Xv (ps.drop i)=ZZ seen (ps.drop a):=by unfold Xv;rw[he,hx,hv0]
    conv=>whnf
    refine LOOP.go Z0 [0] (X:=Nat×List (List UInt8)×List (List UInt8)) (fun y=>y.1<=ps.length/\y.2.1.length<=y.1/\y.2.2.length<=y.1/\Xv (ps.drop i)=ZZ y.2.1 (ps.drop y.1)) (fun y=>[(3, .sl (.loc 6) 0 1 y.2.1.length none)]) (fun y=>[(0,JB y.1 (ps.length-y.1) L E ([]) ([]) vs.length y.2.2.length P),(4, .rows 1 (vs.map Zc)),(5, .rows 1 (y.2.2.map Zc)),(6, .rows 1 (y.2.1.map Zc))]) 7 (fun y=>ps.length-y.1) (a,seen,[]) ⟨by simp only;omega,by simp only;omega,by simp,hr0⟩ ?_;conv=>whnf
    refine⟨by exact GOES.kA h0 [4,5,6],?_⟩;clear hr0 hv0 hx hs hv;rintro⟨a,seen,xs⟩ ⟨ha,hs,hv,hx⟩;dsimp only at ha hs hv hx⊢;conv=>whnf
    refine CALL.hA (XR 266 _ ps (fun s hs=>Ws s (hsm s hs)) a (ps.length-a) (by omega) L E ([]) ([]) vs.length xs.length P) ?_ ?_
    ·rintro r O' nx' ⟨rfl,rfl,rfl⟩;exact⟨rfl,rfl,rfl⟩
    rintro r O' ⟨rfl,rfl,_⟩;conv=>whnf
    refine IF.mk (fun h=>?_) (fun h=>?_)
    ·obtain⟨w,hw,hwm⟩:=ZK h;have hlt:=(List.getElem?_eq_some_iff.1 hw).1;obtain⟨k',hk'⟩:∃k',ps.length-a=k'+1:=⟨ps.length-a-1,by omega⟩;have hpl:=hsm w (List.mem_of_getElem? hw);rw[hk'];conv=>whnf
     refine CALL.hA (Y0 ps a k' (by omega) w hw L E ([]) ([]) vs.length xs.length P) ?_ ?_
     ·rintro r O' nx' ⟨rfl,rfl,rfl⟩;exact⟨rfl,rfl,rfl⟩
     rintro r O' ⟨rfl,rfl,_⟩;conv=>whnf
     refine CALL.hA (Wt 2 ps (by omega) (a+1) k' (by omega) L E ([]) ([]) vs.length xs.length P) ?_ ?_
     ·rintro r O' nx' ⟨n,s,_,_,rfl,rfl,rfl⟩;exact⟨rfl,rfl,rfl⟩
     rintro r O' ⟨n,s,hn,hsl,rfl,rfl,_⟩;have hnle:n<=(ps.drop (a+1)).length:=by rw[hn];exact VI _ _
     rw[List.length_drop]at hnle
     have hxa:ZZ seen (ps.drop a)=if n=0\/Z4 w∈seen then none else ZZ (seen++ [Z4 w]) (ps.drop (a+1+n)):=by
      rw[ZU hw,ZZ,if_pos hwm,<-hn,List.drop_drop]
     conv=>whnf
     refine IF.mk (fun h1=>?_) (fun h1=>?_)
     ·have h0n:n=0:=by simpa using h1
      have hn:Xv (ps.drop i)=none:=by rw[hx,hxa,if_pos (.inl h0n)]
      conv=>whnf
      repeat'((first|refine AU ?_|(refine IW ?_ ?_<;>intro h<;>try(exfalso;omega)))<;>conv=>whnf)
      exact FIN.loose h0 0 [.sl (.loc 1) (a+1+n) 1 (k'-n) none, .str L, .str E, .str ([]), .str ([]), .any, .any, .str P] rfl rfl rfl ⟨.inr ⟨rfl,rfl⟩, .inr ⟨rfl,rfl⟩, .inr ⟨rfl,rfl⟩, .inr ⟨rfl,rfl⟩, .inr ⟨rfl,rfl⟩, .inl rfl, .inl rfl, .inr ⟨rfl,rfl⟩,trivial⟩ ⟨a+1+n,k'-n,[],[],by omega,by rw[hn];rfl,by simp[hn],rfl,rfl⟩
     ·have h0n:n≠0:=by simpa using h1
      conv=>whnf
      repeat'((first|refine CALL.value (Xr _ hpl) rfl rfl ?_|(refine CALL.look1 6 (YD seen (Z4 w) (by omega)) rfl rfl rfl rfl (Yh _) rfl ?_;conv=>whnf)|refine AU ?_|(refine IW ?_ ?_<;>intro h<;>try(exfalso;omega)))<;>conv=>whnf)
      ·have hin:Z4 w∈seen:=by simp_all
       have hn:Xv (ps.drop i)=none:=by rw[hx,hxa,if_pos (.inr hin)]
       exact FIN.loose h0 0 [.sl (.loc 1) (a+1+n) 1 (k'-n) none, .str L, .str E, .str ([]), .str ([]), .any, .any, .str P] rfl rfl rfl ⟨.inr ⟨rfl,rfl⟩, .inr ⟨rfl,rfl⟩, .inr ⟨rfl,rfl⟩, .inr ⟨rfl,rfl⟩, .inr ⟨rfl,rfl⟩, .inl rfl, .inl rfl, .inr ⟨rfl,rfl⟩,trivial⟩ ⟨a+1+n,k'-n,[],[],by omega,by rw[hn];rfl,by simp[hn],rfl,rfl⟩
      ·have hin:¬Z4 w∈seen:=by simp_all
       refine⟨(a+1+n,seen++ [Z4 w],xs++ [w++s]),⟨by simp only;omega,by simp;omega,by simp;omega,by simp only;rw[hx,hxa,if_neg (by simp[h0n,hin])]⟩,by simp only;omega,?_⟩;dsimp only;rw[show ps.length-(a+1+n)=k'-n by omega,show(xs++ [w++s]).length=xs.length+1 by simp];conv=>whnf
       exact GOES.kA h0 [4,10,8]
    ·have hv0:ZZ seen (ps.drop a)=some (ps.drop a):=by
      rcases XK h with h|⟨s,_,h1,h2⟩
      ·rw[h,ZZ]
      ·rw[h1,ZZ,if_neg (by simp[h2])]
     conv=>whnf
     exact FIN.loose h0 0 [.sl (.loc 1) (a) 1 (ps.length-a) none, .str L, .str E, .str ([]), .str ([]), .any, .any, .str P] rfl rfl rfl ⟨.inr ⟨rfl,rfl⟩, .inr ⟨rfl,rfl⟩, .inr ⟨rfl,rfl⟩, .inr ⟨rfl,rfl⟩, .inr ⟨rfl,rfl⟩, .inl rfl, .inl rfl, .inr ⟨rfl,rfl⟩,trivial⟩ ⟨a,ps.length-a,[],[],by omega,by rw[hx,hv0];rfl,by rw[hx,hv0];rintro l ⟨⟩;rfl,rfl,rfl⟩
end Go.Proofs.YtlcbipfmodcedaaGreatDoor
