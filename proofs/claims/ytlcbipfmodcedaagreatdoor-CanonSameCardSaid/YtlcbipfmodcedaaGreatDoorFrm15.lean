/- Part 15: Tag3. Conditions: as each part says. -/
import Derived.Test.YtlcbipfmodcedaaGreatDoorFrm14
set_option linter.unusedVariables false
set_option linter.unusedSimpArgs false
set_option maxRecDepth 20000
set_option maxHeartbeats 8000000
namespace Go.Proofs.YtlcbipfmodcedaaGreatDoor
open Go.Sx Go.Our
open _root_.Go.Proofs.Tryz
theorem Zer(ps:List (List UInt8))(hb:JC ps+ps.length<=68719476736)(i m:Nat)(him:i+m=ps.length)(L E:List UInt8)(P:List UInt8):
 vS prog uf 213 4 [.ptr (.loc 0) 0 0 0] [(0,W6 i m L E [] [] 0 0 P),(2, .rows 1 []),(3, .rows 1 [])] [(1, .rows 1 (ps.map Zf))]
  (fun r O nx=> ∃(i' m':Nat) (S R:List UInt8),i'+m'=ps.length/\r= .bool (Xq (ps.drop i)).isSome/\(∀l,Xq (ps.drop i)=some l->l=ps.drop i')/\O=[(0,WS i' m' L E S R 0 0 P)]/\nx=4):=by
 have wS:=tF (ps:=ps) (by omega);refine vS.enter Z0 call213 func213 rfl 85 rfl rfl [.tmp 2] rfl ?_;intro w0 F η0 h0;conv=>whnf
 refine CALL.hA (Vm 262 _ ps (fun s hs=>Zck s (wS s hs)) i m him L E [] [] 0 0 P) ?_ ?_;rintro r O' vW ⟨rfl,rfl,rfl⟩;exact⟨rfl,rfl,rfl⟩;rintro r O' ⟨rfl,rfl,_⟩;conv=>whnf
 refine IF.mk (fun h1=>?_) (fun h1=>?_)
 .obtain⟨p,hp,cg⟩:=ZN h1;have hlt:=(ze.1 hp).1;have o9:=VF (p:=fun s=>ZH s 4 4 true) hp cg;obtain⟨k,rfl⟩:∃k,m=k+1:=⟨m-1,by omega⟩;conv=>whnf
  refine CALL.hA (YC ps i k him p hp L E [] [] 0 0 P) ?_ ?_;rintro r O' vW ⟨rfl,rfl,rfl⟩;exact⟨rfl,rfl,rfl⟩;rintro r O' ⟨rfl,rfl,_⟩;conv=>whnf
  refine CALL.hA (Vm 263 _ ps (fun s hs=>Lh s (wS s hs)) (i+1) k (by omega) L E p [] 0 0 P) ?_ ?_;rintro r O' vW ⟨rfl,rfl,rfl⟩;exact⟨rfl,rfl,rfl⟩;rintro r O' ⟨rfl,rfl,_⟩;conv=>whnf
  refine IF.mk (fun h1=>?_) (fun h1=>?_)
  .obtain⟨q,hq,jg⟩:=ZN h1;have hlt:=(ze.1 hq).1;obtain⟨k2,rfl⟩:∃k2,k=k2+1:=⟨k-1,by omega⟩;have he:J4 Xf (J4 (fun s=>ZH s 4 4 true) (ps.drop i))=ps.drop (i+1+1):=by rw[o9,VF hq jg]
   conv=>whnf
   refine CALL.hA (YC ps (i+1) k2 (by omega) q hq L E p [] 0 0 P) ?_ ?_;rintro r O' vW ⟨rfl,rfl,rfl⟩;exact⟨rfl,rfl,rfl⟩;rintro r O' ⟨rfl,rfl,_⟩;conv=>whnf
   refine vZ.nil 3 1 rfl ?_;refine vZ.go Z0 [0] (X:=Nat×List (List UInt8)×List (List UInt8)) (fun y=>y.1<=ps.length/\y.2.1.length<=y.1/\y.2.2.length<=y.1/\YN [] (ps.drop (i+1+1))=YN y.2.1 (ps.drop y.1)) (fun y=>[(3, .sl (.loc 6) 0 1 y.2.1.length none)]) (fun y=>[(0,JB y.1 (ps.length-y.1) L E (p) (q) y.2.2.length 0 P),(4, .rows 1 (y.2.2.map Zf)),(5, .rows 1 []),(6, .rows 1 (y.2.1.map Zf))]) 7 (fun y=>ps.length-y.1) (i+1+1,[],[]) ⟨by simp only;omega,by simp,by simp,rfl⟩ ?_;conv=>whnf
   try rw[show ps.length-(i+1+1)=k2 by omega]
   refine⟨by exact vU.kA h0 [2,3,4],?_⟩;rintro⟨a,seen,vs⟩ ⟨ha,hs,hv,hx⟩;dsimp only at ha hs hv hx⊢;conv=>whnf
   refine CALL.hA (XK 264 _ ps (fun s hs=>VE s (wS s hs)) a (ps.length-a) (by omega) L E (p) (q) vs.length 0 P) ?_ ?_;rintro r O' vW ⟨rfl,rfl,rfl⟩;exact⟨rfl,rfl,rfl⟩;rintro r O' ⟨rfl,rfl,_⟩;conv=>whnf
   refine IF.mk (fun h=>?_) (fun h=>?_)
   .obtain⟨w,hw,gu⟩:=ZN h;have hlt:=(ze.1 hw).1;obtain⟨k',hk'⟩:∃k',ps.length-a=k'+1:=⟨ps.length-a-1,by omega⟩;have jo:=wS w (zV hw)
    have jI:YN seen (ps.drop a)=if Z7 w∈seen then none else YN (seen++ [Z7 w]) (ps.drop (a+1)):=by
     rw[ZX hw];simp only[YN];rw[zf gu]
    rw[hk'];conv=>whnf
    refine CALL.hA (Y4 ps a k' (by omega) w hw L E (p) (q) vs.length 0 P) ?_ ?_;rintro r O' vW ⟨rfl,rfl,rfl⟩;exact⟨rfl,rfl,rfl⟩;rintro r O' ⟨rfl,rfl,_⟩;conv=>whnf
    repeat'(first|refine CALL.value (Xm _ jo) rfl rfl ?_|refine CALL.kT 6 (YD seen (Z7 w) (by omega)) rfl rfl rfl rfl (Yj _) rfl ?_|refine AU ?_|refine IW ?_ ?_<;>intro h<;>try omega)<;>conv=>whnf
    .have hin:Z7 w∈seen:=by simpa using h
     have hn:Xq (ps.drop i)=none:=by unfold Xq;rw[he,hx,jI,zf hin]
     exact u0.loose h0 0 [.sl (.loc 1) (a+1) 1 (k') none, .str L, .str E, .str (p), .str (q), .any, .any, .str P] rfl rfl rfl ⟨.inr ⟨rfl,rfl⟩, .inr ⟨rfl,rfl⟩, .inr ⟨rfl,rfl⟩, .inr ⟨rfl,rfl⟩, .inr ⟨rfl,rfl⟩, .inl rfl, .inl rfl, .inr ⟨rfl,rfl⟩,trivial⟩ ⟨a+1,k',p,q,by omega,by rw[hn];rfl,by simp[hn],rfl,rfl⟩
    .have hin:¬Z7 w∈seen:=by simpa using h
     refine⟨(a+1,seen++ [Z7 w],vs++ [w]),⟨by simp only;omega,by simp;omega,by simp;omega,by simp only;rw[hx,jI,z7 hin]⟩,by simp only;omega,?_⟩;dsimp only;rw[show ps.length-(a+1)=k' by omega,show(vs++ [w]).length=vs.length+1 by simp];conv=>whnf
     exact vU.kA h0 [10,5,8]
   .have qu:YN seen (ps.drop a)=some (ps.drop a,seen):=by
     rcases XC h with h|⟨s,_,h1,h2⟩
     rw[h];rfl;rw[h1];simp only[YN];rw[z7 (by simp[h2])]
    have nr:Xq (ps.drop i)=Y3 seen (ps.drop a):=by unfold Xq;rw[he,hx,qu]
    conv=>whnf
    refine vZ.go Z0 [0] (X:=Nat×List (List UInt8)×List (List UInt8)) (fun y=>y.1<=ps.length/\y.2.1.length<=y.1/\y.2.2.length<=y.1/\Xq (ps.drop i)=Y3 y.2.1 (ps.drop y.1)) (fun y=>[(3, .sl (.loc 6) 0 1 y.2.1.length none)]) (fun y=>[(0,JB y.1 (ps.length-y.1) L E (p) (q) vs.length y.2.2.length P),(4, .rows 1 (vs.map Zf)),(5, .rows 1 (y.2.2.map Zf)),(6, .rows 1 (y.2.1.map Zf))]) 7 (fun y=>ps.length-y.1) (a,seen,[]) ⟨by simp only;omega,by simp only;omega,by simp,nr⟩ ?_;conv=>whnf
    refine⟨by exact vU.kA h0 [4,5,6],?_⟩;clear nr qu hx hs hv;rintro⟨a,seen,xs⟩ ⟨ha,hs,hv,hx⟩;dsimp only at ha hs hv hx⊢;conv=>whnf
    refine CALL.hA (XK 266 _ ps (fun s hs=>Ww s (wS s hs)) a (ps.length-a) (by omega) L E (p) (q) vs.length xs.length P) ?_ ?_;rintro r O' vW ⟨rfl,rfl,rfl⟩;exact⟨rfl,rfl,rfl⟩;rintro r O' ⟨rfl,rfl,_⟩;conv=>whnf
    refine IF.mk (fun h=>?_) (fun h=>?_)
    .obtain⟨w,hw,gu⟩:=ZN h;have hlt:=(ze.1 hw).1;obtain⟨k',hk'⟩:∃k',ps.length-a=k'+1:=⟨ps.length-a-1,by omega⟩;have jo:=wS w (zV hw);rw[hk'];conv=>whnf
     refine CALL.hA (Y4 ps a k' (by omega) w hw L E (p) (q) vs.length xs.length P) ?_ ?_;rintro r O' vW ⟨rfl,rfl,rfl⟩;exact⟨rfl,rfl,rfl⟩;rintro r O' ⟨rfl,rfl,_⟩;conv=>whnf
     refine CALL.hA (Wx 2 ps (by omega) (a+1) k' (by omega) L E (p) (q) vs.length xs.length P) ?_ ?_;rintro r O' vW ⟨n,s,_,_,rfl,rfl,rfl⟩;exact⟨rfl,rfl,rfl⟩;rintro r O' ⟨n,s,hn,kL,rfl,rfl,_⟩;have jB:n<=(ps.drop (a+1)).length:=by rw[hn];exact VQ _ _
     rw[zD]at jB
     have jI:Y3 seen (ps.drop a)=if n=0\/Z7 w∈seen then none else Y3 (seen++ [Z7 w]) (ps.drop (a+1+n)):=by
      rw[ZX hw,Y3,zf gu,<-hn,yB]
     conv=>whnf
     refine IF.mk (fun h1=>?_) (fun h1=>?_)
     .have bN:n=0:=by simpa using h1
      have hn:Xq (ps.drop i)=none:=by rw[hx,jI,zf (.inl bN)]
      conv=>whnf
      repeat'(first|refine AU ?_)<;>conv=>whnf
      exact u0.loose h0 0 [.sl (.loc 1) (a+1+n) 1 (k'-n) none, .str L, .str E, .str (p), .str (q), .any, .any, .str P] rfl rfl rfl ⟨.inr ⟨rfl,rfl⟩, .inr ⟨rfl,rfl⟩, .inr ⟨rfl,rfl⟩, .inr ⟨rfl,rfl⟩, .inr ⟨rfl,rfl⟩, .inl rfl, .inl rfl, .inr ⟨rfl,rfl⟩,trivial⟩ ⟨a+1+n,k'-n,p,q,by omega,by rw[hn];rfl,by simp[hn],rfl,rfl⟩
     .have bN:n≠0:=by simpa using h1
      conv=>whnf
      repeat'(first|refine CALL.value (Xm _ jo) rfl rfl ?_|refine CALL.kT 6 (YD seen (Z7 w) (by omega)) rfl rfl rfl rfl (Yj _) rfl ?_|refine AU ?_|refine IW ?_ ?_<;>intro h<;>try omega)<;>conv=>whnf
      .have hin:Z7 w∈seen:=by simp_all
       have hn:Xq (ps.drop i)=none:=by rw[hx,jI,zf (.inr hin)]
       exact u0.loose h0 0 [.sl (.loc 1) (a+1+n) 1 (k'-n) none, .str L, .str E, .str (p), .str (q), .any, .any, .str P] rfl rfl rfl ⟨.inr ⟨rfl,rfl⟩, .inr ⟨rfl,rfl⟩, .inr ⟨rfl,rfl⟩, .inr ⟨rfl,rfl⟩, .inr ⟨rfl,rfl⟩, .inl rfl, .inl rfl, .inr ⟨rfl,rfl⟩,trivial⟩ ⟨a+1+n,k'-n,p,q,by omega,by rw[hn];rfl,by simp[hn],rfl,rfl⟩
      .have hin:¬Z7 w∈seen:=by simp_all
       refine⟨(a+1+n,seen++ [Z7 w],xs++ [w++s]),⟨by simp only;omega,by simp;omega,by simp;omega,by simp only;rw[hx,jI,z7 (by simp[bN,hin])]⟩,by simp only;omega,?_⟩;dsimp only;rw[show ps.length-(a+1+n)=k'-n by omega,show(xs++ [w++s]).length=xs.length+1 by simp];conv=>whnf
       exact vU.kA h0 [4,10,8]
    .have qu:Y3 seen (ps.drop a)=some (ps.drop a):=by
      rcases XC h with h|⟨s,_,h1,h2⟩
      rw[h,Y3];rw[h1,Y3,z7 (by simp[h2])]
     conv=>whnf
     exact u0.loose h0 0 [.sl (.loc 1) (a) 1 (ps.length-a) none, .str L, .str E, .str (p), .str (q), .any, .any, .str P] rfl rfl rfl ⟨.inr ⟨rfl,rfl⟩, .inr ⟨rfl,rfl⟩, .inr ⟨rfl,rfl⟩, .inr ⟨rfl,rfl⟩, .inr ⟨rfl,rfl⟩, .inl rfl, .inl rfl, .inr ⟨rfl,rfl⟩,trivial⟩ ⟨a,ps.length-a,p,q,by omega,by rw[hx,qu];rfl,by rw[hx,qu];rintro l ⟨⟩;rfl,rfl,rfl⟩
  .have he:J4 Xf (J4 (fun s=>ZH s 4 4 true) (ps.drop i))=ps.drop (i+1):=by rw[o9,iY h1]
   conv=>whnf
   refine vZ.nil 3 1 rfl ?_;refine vZ.go Z0 [0] (X:=Nat×List (List UInt8)×List (List UInt8)) (fun y=>y.1<=ps.length/\y.2.1.length<=y.1/\y.2.2.length<=y.1/\YN [] (ps.drop (i+1))=YN y.2.1 (ps.drop y.1)) (fun y=>[(3, .sl (.loc 6) 0 1 y.2.1.length none)]) (fun y=>[(0,JB y.1 (ps.length-y.1) L E (p) ([]) y.2.2.length 0 P),(4, .rows 1 (y.2.2.map Zf)),(5, .rows 1 []),(6, .rows 1 (y.2.1.map Zf))]) 7 (fun y=>ps.length-y.1) (i+1,[],[]) ⟨by simp only;omega,by simp,by simp,rfl⟩ ?_;conv=>whnf
   try rw[show ps.length-(i+1)=k by omega]
   refine⟨by exact vU.kA h0 [2,3,4],?_⟩;rintro⟨a,seen,vs⟩ ⟨ha,hs,hv,hx⟩;dsimp only at ha hs hv hx⊢;conv=>whnf
   refine CALL.hA (XK 264 _ ps (fun s hs=>VE s (wS s hs)) a (ps.length-a) (by omega) L E (p) ([]) vs.length 0 P) ?_ ?_;rintro r O' vW ⟨rfl,rfl,rfl⟩;exact⟨rfl,rfl,rfl⟩;rintro r O' ⟨rfl,rfl,_⟩;conv=>whnf
   refine IF.mk (fun h=>?_) (fun h=>?_)
   .obtain⟨w,hw,gu⟩:=ZN h;have hlt:=(ze.1 hw).1;obtain⟨k',hk'⟩:∃k',ps.length-a=k'+1:=⟨ps.length-a-1,by omega⟩;have jo:=wS w (zV hw)
    have jI:YN seen (ps.drop a)=if Z7 w∈seen then none else YN (seen++ [Z7 w]) (ps.drop (a+1)):=by
     rw[ZX hw];simp only[YN];rw[zf gu]
    rw[hk'];conv=>whnf
    refine CALL.hA (Y4 ps a k' (by omega) w hw L E (p) ([]) vs.length 0 P) ?_ ?_;rintro r O' vW ⟨rfl,rfl,rfl⟩;exact⟨rfl,rfl,rfl⟩;rintro r O' ⟨rfl,rfl,_⟩;conv=>whnf
    repeat'(first|refine CALL.value (Xm _ jo) rfl rfl ?_|refine CALL.kT 6 (YD seen (Z7 w) (by omega)) rfl rfl rfl rfl (Yj _) rfl ?_|refine AU ?_|refine IW ?_ ?_<;>intro h<;>try omega)<;>conv=>whnf
    .have hin:Z7 w∈seen:=by simpa using h
     have hn:Xq (ps.drop i)=none:=by unfold Xq;rw[he,hx,jI,zf hin]
     exact u0.loose h0 0 [.sl (.loc 1) (a+1) 1 (k') none, .str L, .str E, .str (p), .str ([]), .any, .any, .str P] rfl rfl rfl ⟨.inr ⟨rfl,rfl⟩, .inr ⟨rfl,rfl⟩, .inr ⟨rfl,rfl⟩, .inr ⟨rfl,rfl⟩, .inr ⟨rfl,rfl⟩, .inl rfl, .inl rfl, .inr ⟨rfl,rfl⟩,trivial⟩ ⟨a+1,k',p,[],by omega,by rw[hn];rfl,by simp[hn],rfl,rfl⟩
    .have hin:¬Z7 w∈seen:=by simpa using h
     refine⟨(a+1,seen++ [Z7 w],vs++ [w]),⟨by simp only;omega,by simp;omega,by simp;omega,by simp only;rw[hx,jI,z7 hin]⟩,by simp only;omega,?_⟩;dsimp only;rw[show ps.length-(a+1)=k' by omega,show(vs++ [w]).length=vs.length+1 by simp];conv=>whnf
     exact vU.kA h0 [10,5,8]
   .have qu:YN seen (ps.drop a)=some (ps.drop a,seen):=by
     rcases XC h with h|⟨s,_,h1,h2⟩
     rw[h];rfl;rw[h1];simp only[YN];rw[z7 (by simp[h2])]
    have nr:Xq (ps.drop i)=Y3 seen (ps.drop a):=by unfold Xq;rw[he,hx,qu]
    conv=>whnf
    refine vZ.go Z0 [0] (X:=Nat×List (List UInt8)×List (List UInt8)) (fun y=>y.1<=ps.length/\y.2.1.length<=y.1/\y.2.2.length<=y.1/\Xq (ps.drop i)=Y3 y.2.1 (ps.drop y.1)) (fun y=>[(3, .sl (.loc 6) 0 1 y.2.1.length none)]) (fun y=>[(0,JB y.1 (ps.length-y.1) L E (p) ([]) vs.length y.2.2.length P),(4, .rows 1 (vs.map Zf)),(5, .rows 1 (y.2.2.map Zf)),(6, .rows 1 (y.2.1.map Zf))]) 7 (fun y=>ps.length-y.1) (a,seen,[]) ⟨by simp only;omega,by simp only;omega,by simp,nr⟩ ?_;conv=>whnf
    refine⟨by exact vU.kA h0 [4,5,6],?_⟩;clear nr qu hx hs hv;rintro⟨a,seen,xs⟩ ⟨ha,hs,hv,hx⟩;dsimp only at ha hs hv hx⊢;conv=>whnf
    refine CALL.hA (XK 266 _ ps (fun s hs=>Ww s (wS s hs)) a (ps.length-a) (by omega) L E (p) ([]) vs.length xs.length P) ?_ ?_;rintro r O' vW ⟨rfl,rfl,rfl⟩;exact⟨rfl,rfl,rfl⟩;rintro r O' ⟨rfl,rfl,_⟩;conv=>whnf
    refine IF.mk (fun h=>?_) (fun h=>?_)
    .obtain⟨w,hw,gu⟩:=ZN h;have hlt:=(ze.1 hw).1;obtain⟨k',hk'⟩:∃k',ps.length-a=k'+1:=⟨ps.length-a-1,by omega⟩;have jo:=wS w (zV hw);rw[hk'];conv=>whnf
     refine CALL.hA (Y4 ps a k' (by omega) w hw L E (p) ([]) vs.length xs.length P) ?_ ?_;rintro r O' vW ⟨rfl,rfl,rfl⟩;exact⟨rfl,rfl,rfl⟩;rintro r O' ⟨rfl,rfl,_⟩;conv=>whnf
     refine CALL.hA (Wx 2 ps (by omega) (a+1) k' (by omega) L E (p) ([]) vs.length xs.length P) ?_ ?_;rintro r O' vW ⟨n,s,_,_,rfl,rfl,rfl⟩;exact⟨rfl,rfl,rfl⟩;rintro r O' ⟨n,s,hn,kL,rfl,rfl,_⟩;have jB:n<=(ps.drop (a+1)).length:=by rw[hn];exact VQ _ _
     rw[zD]at jB
     have jI:Y3 seen (ps.drop a)=if n=0\/Z7 w∈seen then none else Y3 (seen++ [Z7 w]) (ps.drop (a+1+n)):=by
      rw[ZX hw,Y3,zf gu,<-hn,yB]
     conv=>whnf
     refine IF.mk (fun h1=>?_) (fun h1=>?_)
     .have bN:n=0:=by simpa using h1
      have hn:Xq (ps.drop i)=none:=by rw[hx,jI,zf (.inl bN)]
      conv=>whnf
      repeat'(first|refine AU ?_)<;>conv=>whnf
      exact u0.loose h0 0 [.sl (.loc 1) (a+1+n) 1 (k'-n) none, .str L, .str E, .str (p), .str ([]), .any, .any, .str P] rfl rfl rfl ⟨.inr ⟨rfl,rfl⟩, .inr ⟨rfl,rfl⟩, .inr ⟨rfl,rfl⟩, .inr ⟨rfl,rfl⟩, .inr ⟨rfl,rfl⟩, .inl rfl, .inl rfl, .inr ⟨rfl,rfl⟩,trivial⟩ ⟨a+1+n,k'-n,p,[],by omega,by rw[hn];rfl,by simp[hn],rfl,rfl⟩
     .have bN:n≠0:=by simpa using h1
      conv=>whnf
      repeat'(first|refine CALL.value (Xm _ jo) rfl rfl ?_|refine CALL.kT 6 (YD seen (Z7 w) (by omega)) rfl rfl rfl rfl (Yj _) rfl ?_|refine AU ?_|refine IW ?_ ?_<;>intro h<;>try omega)<;>conv=>whnf
      .have hin:Z7 w∈seen:=by simp_all
       have hn:Xq (ps.drop i)=none:=by rw[hx,jI,zf (.inr hin)]
       exact u0.loose h0 0 [.sl (.loc 1) (a+1+n) 1 (k'-n) none, .str L, .str E, .str (p), .str ([]), .any, .any, .str P] rfl rfl rfl ⟨.inr ⟨rfl,rfl⟩, .inr ⟨rfl,rfl⟩, .inr ⟨rfl,rfl⟩, .inr ⟨rfl,rfl⟩, .inr ⟨rfl,rfl⟩, .inl rfl, .inl rfl, .inr ⟨rfl,rfl⟩,trivial⟩ ⟨a+1+n,k'-n,p,[],by omega,by rw[hn];rfl,by simp[hn],rfl,rfl⟩
      .have hin:¬Z7 w∈seen:=by simp_all
       refine⟨(a+1+n,seen++ [Z7 w],xs++ [w++s]),⟨by simp only;omega,by simp;omega,by simp;omega,by simp only;rw[hx,jI,z7 (by simp[bN,hin])]⟩,by simp only;omega,?_⟩;dsimp only;rw[show ps.length-(a+1+n)=k'-n by omega,show(xs++ [w++s]).length=xs.length+1 by simp];conv=>whnf
       exact vU.kA h0 [4,10,8]
    .have qu:Y3 seen (ps.drop a)=some (ps.drop a):=by
      rcases XC h with h|⟨s,_,h1,h2⟩
      rw[h,Y3];rw[h1,Y3,z7 (by simp[h2])]
     conv=>whnf
     exact u0.loose h0 0 [.sl (.loc 1) (a) 1 (ps.length-a) none, .str L, .str E, .str (p), .str ([]), .any, .any, .str P] rfl rfl rfl ⟨.inr ⟨rfl,rfl⟩, .inr ⟨rfl,rfl⟩, .inr ⟨rfl,rfl⟩, .inr ⟨rfl,rfl⟩, .inr ⟨rfl,rfl⟩, .inl rfl, .inl rfl, .inr ⟨rfl,rfl⟩,trivial⟩ ⟨a,ps.length-a,p,[],by omega,by rw[hx,qu];rfl,by rw[hx,qu];rintro l ⟨⟩;rfl,rfl,rfl⟩
 .have o9:=iY h1;conv=>whnf
  refine CALL.hA (Vm 263 _ ps (fun s hs=>Lh s (wS s hs)) i m (by omega) L E [] [] 0 0 P) ?_ ?_;rintro r O' vW ⟨rfl,rfl,rfl⟩;exact⟨rfl,rfl,rfl⟩;rintro r O' ⟨rfl,rfl,_⟩;conv=>whnf
  refine IF.mk (fun h1=>?_) (fun h1=>?_)
  .obtain⟨q,hq,jg⟩:=ZN h1;have hlt:=(ze.1 hq).1;obtain⟨k2,rfl⟩:∃k2,m=k2+1:=⟨m-1,by omega⟩;have he:J4 Xf (J4 (fun s=>ZH s 4 4 true) (ps.drop i))=ps.drop (i+1):=by rw[o9,VF hq jg]
   conv=>whnf
   refine CALL.hA (YC ps i k2 (by omega) q hq L E [] [] 0 0 P) ?_ ?_;rintro r O' vW ⟨rfl,rfl,rfl⟩;exact⟨rfl,rfl,rfl⟩;rintro r O' ⟨rfl,rfl,_⟩;conv=>whnf
   refine vZ.nil 3 1 rfl ?_;refine vZ.go Z0 [0] (X:=Nat×List (List UInt8)×List (List UInt8)) (fun y=>y.1<=ps.length/\y.2.1.length<=y.1/\y.2.2.length<=y.1/\YN [] (ps.drop (i+1))=YN y.2.1 (ps.drop y.1)) (fun y=>[(3, .sl (.loc 6) 0 1 y.2.1.length none)]) (fun y=>[(0,JB y.1 (ps.length-y.1) L E ([]) (q) y.2.2.length 0 P),(4, .rows 1 (y.2.2.map Zf)),(5, .rows 1 []),(6, .rows 1 (y.2.1.map Zf))]) 7 (fun y=>ps.length-y.1) (i+1,[],[]) ⟨by simp only;omega,by simp,by simp,rfl⟩ ?_;conv=>whnf
   try rw[show ps.length-(i+1)=k2 by omega]
   refine⟨by exact vU.kA h0 [2,3,4],?_⟩;rintro⟨a,seen,vs⟩ ⟨ha,hs,hv,hx⟩;dsimp only at ha hs hv hx⊢;conv=>whnf
   refine CALL.hA (XK 264 _ ps (fun s hs=>VE s (wS s hs)) a (ps.length-a) (by omega) L E ([]) (q) vs.length 0 P) ?_ ?_;rintro r O' vW ⟨rfl,rfl,rfl⟩;exact⟨rfl,rfl,rfl⟩;rintro r O' ⟨rfl,rfl,_⟩;conv=>whnf
   refine IF.mk (fun h=>?_) (fun h=>?_)
   .obtain⟨w,hw,gu⟩:=ZN h;have hlt:=(ze.1 hw).1;obtain⟨k',hk'⟩:∃k',ps.length-a=k'+1:=⟨ps.length-a-1,by omega⟩;have jo:=wS w (zV hw)
    have jI:YN seen (ps.drop a)=if Z7 w∈seen then none else YN (seen++ [Z7 w]) (ps.drop (a+1)):=by
     rw[ZX hw];simp only[YN];rw[zf gu]
    rw[hk'];conv=>whnf
    refine CALL.hA (Y4 ps a k' (by omega) w hw L E ([]) (q) vs.length 0 P) ?_ ?_;rintro r O' vW ⟨rfl,rfl,rfl⟩;exact⟨rfl,rfl,rfl⟩;rintro r O' ⟨rfl,rfl,_⟩;conv=>whnf
    repeat'(first|refine CALL.value (Xm _ jo) rfl rfl ?_|refine CALL.kT 6 (YD seen (Z7 w) (by omega)) rfl rfl rfl rfl (Yj _) rfl ?_|refine AU ?_|refine IW ?_ ?_<;>intro h<;>try omega)<;>conv=>whnf
    .have hin:Z7 w∈seen:=by simpa using h
     have hn:Xq (ps.drop i)=none:=by unfold Xq;rw[he,hx,jI,zf hin]
     exact u0.loose h0 0 [.sl (.loc 1) (a+1) 1 (k') none, .str L, .str E, .str ([]), .str (q), .any, .any, .str P] rfl rfl rfl ⟨.inr ⟨rfl,rfl⟩, .inr ⟨rfl,rfl⟩, .inr ⟨rfl,rfl⟩, .inr ⟨rfl,rfl⟩, .inr ⟨rfl,rfl⟩, .inl rfl, .inl rfl, .inr ⟨rfl,rfl⟩,trivial⟩ ⟨a+1,k',[],q,by omega,by rw[hn];rfl,by simp[hn],rfl,rfl⟩
    .have hin:¬Z7 w∈seen:=by simpa using h
     refine⟨(a+1,seen++ [Z7 w],vs++ [w]),⟨by simp only;omega,by simp;omega,by simp;omega,by simp only;rw[hx,jI,z7 hin]⟩,by simp only;omega,?_⟩;dsimp only;rw[show ps.length-(a+1)=k' by omega,show(vs++ [w]).length=vs.length+1 by simp];conv=>whnf
     exact vU.kA h0 [10,5,8]
   .have qu:YN seen (ps.drop a)=some (ps.drop a,seen):=by
     rcases XC h with h|⟨s,_,h1,h2⟩
     rw[h];rfl;rw[h1];simp only[YN];rw[z7 (by simp[h2])]
    have nr:Xq (ps.drop i)=Y3 seen (ps.drop a):=by unfold Xq;rw[he,hx,qu]
    conv=>whnf
    refine vZ.go Z0 [0] (X:=Nat×List (List UInt8)×List (List UInt8)) (fun y=>y.1<=ps.length/\y.2.1.length<=y.1/\y.2.2.length<=y.1/\Xq (ps.drop i)=Y3 y.2.1 (ps.drop y.1)) (fun y=>[(3, .sl (.loc 6) 0 1 y.2.1.length none)]) (fun y=>[(0,JB y.1 (ps.length-y.1) L E ([]) (q) vs.length y.2.2.length P),(4, .rows 1 (vs.map Zf)),(5, .rows 1 (y.2.2.map Zf)),(6, .rows 1 (y.2.1.map Zf))]) 7 (fun y=>ps.length-y.1) (a,seen,[]) ⟨by simp only;omega,by simp only;omega,by simp,nr⟩ ?_;conv=>whnf
    refine⟨by exact vU.kA h0 [4,5,6],?_⟩;clear nr qu hx hs hv;rintro⟨a,seen,xs⟩ ⟨ha,hs,hv,hx⟩;dsimp only at ha hs hv hx⊢;conv=>whnf
    refine CALL.hA (XK 266 _ ps (fun s hs=>Ww s (wS s hs)) a (ps.length-a) (by omega) L E ([]) (q) vs.length xs.length P) ?_ ?_;rintro r O' vW ⟨rfl,rfl,rfl⟩;exact⟨rfl,rfl,rfl⟩;rintro r O' ⟨rfl,rfl,_⟩;conv=>whnf
    refine IF.mk (fun h=>?_) (fun h=>?_)
    .obtain⟨w,hw,gu⟩:=ZN h;have hlt:=(ze.1 hw).1;obtain⟨k',hk'⟩:∃k',ps.length-a=k'+1:=⟨ps.length-a-1,by omega⟩;have jo:=wS w (zV hw);rw[hk'];conv=>whnf
     refine CALL.hA (Y4 ps a k' (by omega) w hw L E ([]) (q) vs.length xs.length P) ?_ ?_;rintro r O' vW ⟨rfl,rfl,rfl⟩;exact⟨rfl,rfl,rfl⟩;rintro r O' ⟨rfl,rfl,_⟩;conv=>whnf
     refine CALL.hA (Wx 2 ps (by omega) (a+1) k' (by omega) L E ([]) (q) vs.length xs.length P) ?_ ?_;rintro r O' vW ⟨n,s,_,_,rfl,rfl,rfl⟩;exact⟨rfl,rfl,rfl⟩;rintro r O' ⟨n,s,hn,kL,rfl,rfl,_⟩;have jB:n<=(ps.drop (a+1)).length:=by rw[hn];exact VQ _ _
     rw[zD]at jB
     have jI:Y3 seen (ps.drop a)=if n=0\/Z7 w∈seen then none else Y3 (seen++ [Z7 w]) (ps.drop (a+1+n)):=by
      rw[ZX hw,Y3,zf gu,<-hn,yB]
     conv=>whnf
     refine IF.mk (fun h1=>?_) (fun h1=>?_)
     .have bN:n=0:=by simpa using h1
      have hn:Xq (ps.drop i)=none:=by rw[hx,jI,zf (.inl bN)]
      conv=>whnf
      repeat'(first|refine AU ?_)<;>conv=>whnf
      exact u0.loose h0 0 [.sl (.loc 1) (a+1+n) 1 (k'-n) none, .str L, .str E, .str ([]), .str (q), .any, .any, .str P] rfl rfl rfl ⟨.inr ⟨rfl,rfl⟩, .inr ⟨rfl,rfl⟩, .inr ⟨rfl,rfl⟩, .inr ⟨rfl,rfl⟩, .inr ⟨rfl,rfl⟩, .inl rfl, .inl rfl, .inr ⟨rfl,rfl⟩,trivial⟩ ⟨a+1+n,k'-n,[],q,by omega,by rw[hn];rfl,by simp[hn],rfl,rfl⟩
     .have bN:n≠0:=by simpa using h1
      conv=>whnf
      repeat'(first|refine CALL.value (Xm _ jo) rfl rfl ?_|refine CALL.kT 6 (YD seen (Z7 w) (by omega)) rfl rfl rfl rfl (Yj _) rfl ?_|refine AU ?_|refine IW ?_ ?_<;>intro h<;>try omega)<;>conv=>whnf
      .have hin:Z7 w∈seen:=by simp_all
       have hn:Xq (ps.drop i)=none:=by rw[hx,jI,zf (.inr hin)]
       exact u0.loose h0 0 [.sl (.loc 1) (a+1+n) 1 (k'-n) none, .str L, .str E, .str ([]), .str (q), .any, .any, .str P] rfl rfl rfl ⟨.inr ⟨rfl,rfl⟩, .inr ⟨rfl,rfl⟩, .inr ⟨rfl,rfl⟩, .inr ⟨rfl,rfl⟩, .inr ⟨rfl,rfl⟩, .inl rfl, .inl rfl, .inr ⟨rfl,rfl⟩,trivial⟩ ⟨a+1+n,k'-n,[],q,by omega,by rw[hn];rfl,by simp[hn],rfl,rfl⟩
      .have hin:¬Z7 w∈seen:=by simp_all
       refine⟨(a+1+n,seen++ [Z7 w],xs++ [w++s]),⟨by simp only;omega,by simp;omega,by simp;omega,by simp only;rw[hx,jI,z7 (by simp[bN,hin])]⟩,by simp only;omega,?_⟩;dsimp only;rw[show ps.length-(a+1+n)=k'-n by omega,show(xs++ [w++s]).length=xs.length+1 by simp];conv=>whnf
       exact vU.kA h0 [4,10,8]
    .have qu:Y3 seen (ps.drop a)=some (ps.drop a):=by
      rcases XC h with h|⟨s,_,h1,h2⟩
      rw[h,Y3];rw[h1,Y3,z7 (by simp[h2])]
     conv=>whnf
     exact u0.loose h0 0 [.sl (.loc 1) (a) 1 (ps.length-a) none, .str L, .str E, .str ([]), .str (q), .any, .any, .str P] rfl rfl rfl ⟨.inr ⟨rfl,rfl⟩, .inr ⟨rfl,rfl⟩, .inr ⟨rfl,rfl⟩, .inr ⟨rfl,rfl⟩, .inr ⟨rfl,rfl⟩, .inl rfl, .inl rfl, .inr ⟨rfl,rfl⟩,trivial⟩ ⟨a,ps.length-a,[],q,by omega,by rw[hx,qu];rfl,by rw[hx,qu];rintro l ⟨⟩;rfl,rfl,rfl⟩
  .have he:J4 Xf (J4 (fun s=>ZH s 4 4 true) (ps.drop i))=ps.drop i:=by rw[o9,iY h1]
   conv=>whnf
   refine vZ.nil 3 1 rfl ?_;refine vZ.go Z0 [0] (X:=Nat×List (List UInt8)×List (List UInt8)) (fun y=>y.1<=ps.length/\y.2.1.length<=y.1/\y.2.2.length<=y.1/\YN [] (ps.drop (i))=YN y.2.1 (ps.drop y.1)) (fun y=>[(3, .sl (.loc 6) 0 1 y.2.1.length none)]) (fun y=>[(0,JB y.1 (ps.length-y.1) L E ([]) ([]) y.2.2.length 0 P),(4, .rows 1 (y.2.2.map Zf)),(5, .rows 1 []),(6, .rows 1 (y.2.1.map Zf))]) 7 (fun y=>ps.length-y.1) (i,[],[]) ⟨by simp only;omega,by simp,by simp,rfl⟩ ?_;conv=>whnf
   try rw[show ps.length-(i)=m by omega]
   refine⟨by exact vU.kA h0 [2,3,4],?_⟩;rintro⟨a,seen,vs⟩ ⟨ha,hs,hv,hx⟩;dsimp only at ha hs hv hx⊢;conv=>whnf
   refine CALL.hA (XK 264 _ ps (fun s hs=>VE s (wS s hs)) a (ps.length-a) (by omega) L E ([]) ([]) vs.length 0 P) ?_ ?_;rintro r O' vW ⟨rfl,rfl,rfl⟩;exact⟨rfl,rfl,rfl⟩;rintro r O' ⟨rfl,rfl,_⟩;conv=>whnf
   refine IF.mk (fun h=>?_) (fun h=>?_)
   .obtain⟨w,hw,gu⟩:=ZN h;have hlt:=(ze.1 hw).1;obtain⟨k',hk'⟩:∃k',ps.length-a=k'+1:=⟨ps.length-a-1,by omega⟩;have jo:=wS w (zV hw)
    have jI:YN seen (ps.drop a)=if Z7 w∈seen then none else YN (seen++ [Z7 w]) (ps.drop (a+1)):=by
     rw[ZX hw];simp only[YN];rw[zf gu]
    rw[hk'];conv=>whnf
    refine CALL.hA (Y4 ps a k' (by omega) w hw L E ([]) ([]) vs.length 0 P) ?_ ?_;rintro r O' vW ⟨rfl,rfl,rfl⟩;exact⟨rfl,rfl,rfl⟩;rintro r O' ⟨rfl,rfl,_⟩;conv=>whnf
    repeat'(first|refine CALL.value (Xm _ jo) rfl rfl ?_|refine CALL.kT 6 (YD seen (Z7 w) (by omega)) rfl rfl rfl rfl (Yj _) rfl ?_|refine AU ?_|refine IW ?_ ?_<;>intro h<;>try omega)<;>conv=>whnf
    .have hin:Z7 w∈seen:=by simpa using h
     have hn:Xq (ps.drop i)=none:=by unfold Xq;rw[he,hx,jI,zf hin]
     exact u0.loose h0 0 [.sl (.loc 1) (a+1) 1 (k') none, .str L, .str E, .str ([]), .str ([]), .any, .any, .str P] rfl rfl rfl ⟨.inr ⟨rfl,rfl⟩, .inr ⟨rfl,rfl⟩, .inr ⟨rfl,rfl⟩, .inr ⟨rfl,rfl⟩, .inr ⟨rfl,rfl⟩, .inl rfl, .inl rfl, .inr ⟨rfl,rfl⟩,trivial⟩ ⟨a+1,k',[],[],by omega,by rw[hn];rfl,by simp[hn],rfl,rfl⟩
    .have hin:¬Z7 w∈seen:=by simpa using h
     refine⟨(a+1,seen++ [Z7 w],vs++ [w]),⟨by simp only;omega,by simp;omega,by simp;omega,by simp only;rw[hx,jI,z7 hin]⟩,by simp only;omega,?_⟩;dsimp only;rw[show ps.length-(a+1)=k' by omega,show(vs++ [w]).length=vs.length+1 by simp];conv=>whnf
     exact vU.kA h0 [10,5,8]
   .have qu:YN seen (ps.drop a)=some (ps.drop a,seen):=by
     rcases XC h with h|⟨s,_,h1,h2⟩
     rw[h];rfl;rw[h1];simp only[YN];rw[z7 (by simp[h2])]
    have nr:Xq (ps.drop i)=Y3 seen (ps.drop a):=by unfold Xq;rw[he,hx,qu]
    conv=>whnf
    refine vZ.go Z0 [0] (X:=Nat×List (List UInt8)×List (List UInt8)) (fun y=>y.1<=ps.length/\y.2.1.length<=y.1/\y.2.2.length<=y.1/\Xq (ps.drop i)=Y3 y.2.1 (ps.drop y.1)) (fun y=>[(3, .sl (.loc 6) 0 1 y.2.1.length none)]) (fun y=>[(0,JB y.1 (ps.length-y.1) L E ([]) ([]) vs.length y.2.2.length P),(4, .rows 1 (vs.map Zf)),(5, .rows 1 (y.2.2.map Zf)),(6, .rows 1 (y.2.1.map Zf))]) 7 (fun y=>ps.length-y.1) (a,seen,[]) ⟨by simp only;omega,by simp only;omega,by simp,nr⟩ ?_;conv=>whnf
    refine⟨by exact vU.kA h0 [4,5,6],?_⟩;clear nr qu hx hs hv;rintro⟨a,seen,xs⟩ ⟨ha,hs,hv,hx⟩;dsimp only at ha hs hv hx⊢;conv=>whnf
    refine CALL.hA (XK 266 _ ps (fun s hs=>Ww s (wS s hs)) a (ps.length-a) (by omega) L E ([]) ([]) vs.length xs.length P) ?_ ?_;rintro r O' vW ⟨rfl,rfl,rfl⟩;exact⟨rfl,rfl,rfl⟩;rintro r O' ⟨rfl,rfl,_⟩;conv=>whnf
    refine IF.mk (fun h=>?_) (fun h=>?_)
    .obtain⟨w,hw,gu⟩:=ZN h;have hlt:=(ze.1 hw).1;obtain⟨k',hk'⟩:∃k',ps.length-a=k'+1:=⟨ps.length-a-1,by omega⟩;have jo:=wS w (zV hw);rw[hk'];conv=>whnf
     refine CALL.hA (Y4 ps a k' (by omega) w hw L E ([]) ([]) vs.length xs.length P) ?_ ?_;rintro r O' vW ⟨rfl,rfl,rfl⟩;exact⟨rfl,rfl,rfl⟩;rintro r O' ⟨rfl,rfl,_⟩;conv=>whnf
     refine CALL.hA (Wx 2 ps (by omega) (a+1) k' (by omega) L E ([]) ([]) vs.length xs.length P) ?_ ?_;rintro r O' vW ⟨n,s,_,_,rfl,rfl,rfl⟩;exact⟨rfl,rfl,rfl⟩;rintro r O' ⟨n,s,hn,kL,rfl,rfl,_⟩;have jB:n<=(ps.drop (a+1)).length:=by rw[hn];exact VQ _ _
     rw[zD]at jB
     have jI:Y3 seen (ps.drop a)=if n=0\/Z7 w∈seen then none else Y3 (seen++ [Z7 w]) (ps.drop (a+1+n)):=by
      rw[ZX hw,Y3,zf gu,<-hn,yB]
     conv=>whnf
     refine IF.mk (fun h1=>?_) (fun h1=>?_)
     .have bN:n=0:=by simpa using h1
      have hn:Xq (ps.drop i)=none:=by rw[hx,jI,zf (.inl bN)]
      conv=>whnf
      repeat'(first|refine AU ?_)<;>conv=>whnf
      exact u0.loose h0 0 [.sl (.loc 1) (a+1+n) 1 (k'-n) none, .str L, .str E, .str ([]), .str ([]), .any, .any, .str P] rfl rfl rfl ⟨.inr ⟨rfl,rfl⟩, .inr ⟨rfl,rfl⟩, .inr ⟨rfl,rfl⟩, .inr ⟨rfl,rfl⟩, .inr ⟨rfl,rfl⟩, .inl rfl, .inl rfl, .inr ⟨rfl,rfl⟩,trivial⟩ ⟨a+1+n,k'-n,[],[],by omega,by rw[hn];rfl,by simp[hn],rfl,rfl⟩
     .have bN:n≠0:=by simpa using h1
      conv=>whnf
      repeat'(first|refine CALL.value (Xm _ jo) rfl rfl ?_|refine CALL.kT 6 (YD seen (Z7 w) (by omega)) rfl rfl rfl rfl (Yj _) rfl ?_|refine AU ?_|refine IW ?_ ?_<;>intro h<;>try omega)<;>conv=>whnf
      .have hin:Z7 w∈seen:=by simp_all
       have hn:Xq (ps.drop i)=none:=by rw[hx,jI,zf (.inr hin)]
       exact u0.loose h0 0 [.sl (.loc 1) (a+1+n) 1 (k'-n) none, .str L, .str E, .str ([]), .str ([]), .any, .any, .str P] rfl rfl rfl ⟨.inr ⟨rfl,rfl⟩, .inr ⟨rfl,rfl⟩, .inr ⟨rfl,rfl⟩, .inr ⟨rfl,rfl⟩, .inr ⟨rfl,rfl⟩, .inl rfl, .inl rfl, .inr ⟨rfl,rfl⟩,trivial⟩ ⟨a+1+n,k'-n,[],[],by omega,by rw[hn];rfl,by simp[hn],rfl,rfl⟩
      .have hin:¬Z7 w∈seen:=by simp_all
       refine⟨(a+1+n,seen++ [Z7 w],xs++ [w++s]),⟨by simp only;omega,by simp;omega,by simp;omega,by simp only;rw[hx,jI,z7 (by simp[bN,hin])]⟩,by simp only;omega,?_⟩;dsimp only;rw[show ps.length-(a+1+n)=k'-n by omega,show(xs++ [w++s]).length=xs.length+1 by simp];conv=>whnf
       exact vU.kA h0 [4,10,8]
    .have qu:Y3 seen (ps.drop a)=some (ps.drop a):=by
      rcases XC h with h|⟨s,_,h1,h2⟩
      rw[h,Y3];rw[h1,Y3,z7 (by simp[h2])]
     conv=>whnf
     exact u0.loose h0 0 [.sl (.loc 1) (a) 1 (ps.length-a) none, .str L, .str E, .str ([]), .str ([]), .any, .any, .str P] rfl rfl rfl ⟨.inr ⟨rfl,rfl⟩, .inr ⟨rfl,rfl⟩, .inr ⟨rfl,rfl⟩, .inr ⟨rfl,rfl⟩, .inr ⟨rfl,rfl⟩, .inl rfl, .inl rfl, .inr ⟨rfl,rfl⟩,trivial⟩ ⟨a,ps.length-a,[],[],by omega,by rw[hx,qu];rfl,by rw[hx,qu];rintro l ⟨⟩;rfl,rfl,rfl⟩
end Go.Proofs.YtlcbipfmodcedaaGreatDoor
