/- Part 9: Sets3. Conditions: as each part says. -/
import Derived.Test.YtlcbipfmodcedaaGreatDoorFrm8
set_option linter.unusedVariables false
set_option linter.unusedSimpArgs false
set_option maxRecDepth 20000
set_option maxHeartbeats 8000000
namespace Go.Proofs.YtlcbipfmodcedaaGreatDoor
open Go.Sx Go.Our
open _root_.Go.Proofs.Tryz
def Cg:uu:=(Zs [(0,1),(1,1),(2,1),(3,1),(4,1),(5,1),(6,1),(7,1),(8,1),(9,1),(11,1),(12,1),(10,2),(13,2),(14,3),(15,1),(16,1),(17,1)])
def Ch:uu:=(Zs [(0,1),(1,1),(2,1),(3,1),(4,1),(5,1),(6,1),(7,1),(8,1),(9,2),(10,2),(11,3),(12,1),(13,1)])
def Zg7:uu:=(Zs [(0,1),(1,1),(2,1),(3,1),(4,1),(6,1),(7,1),(8,1),(9,1),(10,1),(5,3),(11,3),(12,3),(13,1)])
def tC{K:Type}(f:K->List SV)(es k:Nat)(l:List K):SV->vX->Nat->Prop:=fun r O nx=>r= .sl (.loc k) 0 es l.length none/\O=[(k, .rows es (l.map f))]/\nx=k+1
theorem MG{K:Type}{c:K->K->Int}{out:List K}(h:out≠ [])(q:K):Vd c out q=if c (out.getLast h) q<0 then out++ [q]else out:=by
 unfold Vd;rw[vg h]
theorem FP{K:Type}{c:K->K->Int}{out:List K}{q:K}(h:out.length=0\/∃h0:0<out.length,c (out[out.length-1]'(by omega)) q<0):Vd c out q=out++ [q]:=by
 rcases h with h|⟨h0,h⟩
 .have:=zM.1 h;subst this;rfl
 .have hne:out≠ []:=fun e=>by subst e;simp at h0
  rw[MG hne,xX,zf h]
theorem FQ{K:Type}{c:K->K->Int}{out:List K}{q:K}(h:∃h0:0<out.length,0<=c (out[out.length-1]'(by omega)) q):Vd c out q=out:=by
 obtain⟨h0,h⟩:=h;have hne:out≠ []:=fun e=>by subst e;simp at h0
 rw[MG hne,xX,z7 (by omega)]
theorem Zc1{K:Type}{c:K->K->Int}(out:List K):Yg c out [] []=out:=by unfold Yg;rfl
theorem Us{K:Type}{c:K->K->Int}{out a b:List K}(x:K)(h:b=[]\/∃y t,b=y::t/\c x y<=0):Yg c out (x::a) b=Yg c (Vd c out x) a b:=by
 rcases h with rfl|⟨y,t,rfl,h⟩
 conv=>lhs;unfold Yg
 .conv=>lhs;unfold Yg
  rw[zf h]
theorem VA{K:Type}{c:K->K->Int}{out a b:List K}(y:K)(h:a=[]\/∃x t,a=x::t/\¬c x y<=0):Yg c out a (y::b)=Yg c (Vd c out y) a b:=by
 rcases h with rfl|⟨x,t,rfl,h⟩
 conv=>lhs;unfold Yg
 .conv=>lhs;unfold Yg
  rw[z7 h]
theorem FR{K:Type}{A:List K}{i k n:Nat}(h:k<n)(hA:i+n<=A.length):(A.drop (i+k)).take (n-k)=A[i+k]::(A.drop (i+(k+1))).take (n-(k+1)):=by
 rw[zm (by omega),show n-k=(n-(k+1))+1 by omega,List.take_succ_cons];rfl
theorem Z6s(A B:List Qd)(i n j m:Nat)(lA lB:Option Nat)(hA:i+n<=A.length)(hB:j+m<=B.length)(hl:(A.length+B.length)*224<=140737488351232):vS prog uf 118 2 [.sl (.loc 0) i 16 n lA, .sl (.loc 1) j 16 m lB] [] [(0, .rows 16 (A.map Z3)),(1, .rows 16 (B.map Z3))]
 (tC Z3 16 2 (Yg ZP [] ((A.drop i).take n) ((B.drop j).take m))):=by
 refine vS.enter Z0 call118 func118 rfl 62 rfl rfl [.tmp 4] rfl ?_;intro w0 F η0 h0;conv=>whnf
 refine vZ.nil 5 16 rfl ?_
 refine vZ.go Z0 [] (X:=List Qd×Nat×Nat) (fun x=>x.2.1<=n/\x.2.2<=m/\x.1.length<=x.2.1+x.2.2/\Yg ZP [] ((A.drop i).take n) ((B.drop j).take m)=Yg ZP x.1 ((A.drop (i+x.2.1)).take (n-x.2.1)) ((B.drop (j+x.2.2)).take (m-x.2.2)))
  (fun x=>[(0, .sl (.loc 0) (i+x.2.1) 16 (n-x.2.1) lA),(1, .sl (.loc 1) (j+x.2.2) 16 (m-x.2.2) lB),(5, .sl (.loc 2) 0 16 x.1.length none)]) (fun x=>[(2, .rows 16 (x.1.map Z3))]) 3 (fun x=>(n-x.2.1)+(m-x.2.2)) ([],0,0) ⟨by simp,by simp,by simp,rfl⟩ ?_
 conv=>whnf
 refine⟨by exact vU.cA h0,?_⟩;rintro⟨out,p,q⟩ ⟨hp,hq,ho,hr⟩;dsimp only at hp hq ho hr⊢;have uE:∀(h:0<out.length),IntKind.i64.wrap ((out.length:Int)-1)=((out.length-1:Nat):Int):=fun h=>by rw[Z9 (by omega) (by omega)];omega
 rcases zY p n with bM|bM<;>rcases zY q m with jg|jg
 .have ha:=FR (A:=A) (i:=i) bM hA;have hb:=FR (A:=B) (i:=j) jg hB;rw[ha,hb]at hr;conv=>whnf
  repeat'(first|refine Z4 4 Cg ?_|refine Z4 9 Ch ?_|refine wh.mk (fun _ _=>?_)|refine CALL.value (Xc _ _) rfl rfl ?_|refine u6.mk (Zn 224 rfl rfl rfl (by simp) (by omega)) ?_|refine GET.at (row:=Z3 (A[i+p]'(by omega))) (Vc (by omega) (by omega)) ?_|refine GET.at (row:=Z3 (B[j+q]'(by omega))) (Vc (by omega) (by omega)) ?_|refine GET.at (row:=Z3 (out[out.length-1]'(by omega))) (Vc (by omega) (by rw[uE (by omega)];omega)) ?_|refine AU ?_|refine IW ?_ ?_<;>intro h<;>try omega)<;>conv=>whnf
  all_goals first
   |(refine⟨(out++ [A[i+p]'(by omega)],p+1,q),⟨by dsimp only;omega,by dsimp only;omega,by simp only[zh,List.length_cons,List.length_nil];omega,by dsimp only;rw[hr,Us _ (.inr ⟨_,_,rfl,by omega⟩),FP (by first|(left;omega)|(right;exact⟨by omega,by assumption⟩))];(first|done|rw[hb]|rw[ha])⟩,by dsimp only;omega,?_⟩;dsimp only;(conv=>whnf);(refine vU.uw h0 [5] rfl rfl rfl (by first|rfl|(simp only[Zl,Zh,Z2 _ (Zo _),zB,zF]<;>rfl)) ?_ ?_<;>(repeat'(first|(with_reducible rfl)|(exact Zk (Zo _) (Zd _ (Zo _)))|(exact Zk (Zo _) (by(simp[zg,YG,Z3])))|(exact YA rfl (by first|(simp;done)|omega|(simp;omega)))|(exact z8 (SV.int _) (by first|omega|(simp(disch:=omega) only[wI,Z9,Zp]<;>omega)|(simp;done)|(simp<;>omega)))|((conv=>whnf);refine⟨?_,?_⟩)|exact trivial|(simp only[ur,uS];done)|rfl)));done)
   |(refine⟨(out,p+1,q),⟨by dsimp only;omega,by dsimp only;omega,by dsimp only;omega,by dsimp only;rw[hr,Us _ (.inr ⟨_,_,rfl,by omega⟩),FQ ⟨by omega,by assumption⟩];(first|done|rw[hb]|rw[ha])⟩,by dsimp only;omega,?_⟩;dsimp only;(conv=>whnf);exact vU.cA h0;done)
   |(refine⟨(out++ [B[j+q]'(by omega)],p,q+1),⟨by dsimp only;omega,by dsimp only;omega,by simp only[zh,List.length_cons,List.length_nil];omega,by dsimp only;rw[hr,VA _ (.inr ⟨_,_,rfl,by omega⟩),FP (by first|(left;omega)|(right;exact⟨by omega,by assumption⟩))];(first|done|rw[hb]|rw[ha])⟩,by dsimp only;omega,?_⟩;dsimp only;(conv=>whnf);(refine vU.uw h0 [5] rfl rfl rfl (by first|rfl|(simp only[Zl,Zh,Z2 _ (Zo _),zB,zF]<;>rfl)) ?_ ?_<;>(repeat'(first|(with_reducible rfl)|(exact Zk (Zo _) (Zd _ (Zo _)))|(exact Zk (Zo _) (by(simp[zg,YG,Z3])))|(exact YA rfl (by first|(simp;done)|omega|(simp;omega)))|(exact z8 (SV.int _) (by first|omega|(simp(disch:=omega) only[wI,Z9,Zp]<;>omega)|(simp;done)|(simp<;>omega)))|((conv=>whnf);refine⟨?_,?_⟩)|exact trivial|(simp only[ur,uS];done)|rfl)));done)
   |(refine⟨(out,p,q+1),⟨by dsimp only;omega,by dsimp only;omega,by dsimp only;omega,by dsimp only;rw[hr,VA _ (.inr ⟨_,_,rfl,by omega⟩),FQ ⟨by omega,by assumption⟩];(first|done|rw[hb]|rw[ha])⟩,by dsimp only;omega,?_⟩;dsimp only;(conv=>whnf);exact vU.cA h0;done)
 .have ha:=FR (A:=A) (i:=i) bM hA;have hb:(B.drop (j+q)).take (m-q)=[]:=by rw[show m-q=0 by omega];rfl
  rw[ha,hb]at hr;conv=>whnf
  repeat'(first|refine Z4 4 Cg ?_|refine Z4 9 Ch ?_|refine wh.mk (fun _ _=>?_)|refine CALL.value (Xc _ _) rfl rfl ?_|refine u6.mk (Zn 224 rfl rfl rfl (by simp) (by omega)) ?_|refine GET.at (row:=Z3 (A[i+p]'(by omega))) (Vc (by omega) (by omega)) ?_|refine GET.at (row:=Z3 (out[out.length-1]'(by omega))) (Vc (by omega) (by rw[uE (by omega)];omega)) ?_|refine AU ?_|refine IW ?_ ?_<;>intro h<;>try omega)<;>conv=>whnf
  all_goals first
   |(refine⟨(out++ [A[i+p]'(by omega)],p+1,q),⟨by dsimp only;omega,by dsimp only;omega,by simp only[zh,List.length_cons,List.length_nil];omega,by dsimp only;rw[hb,hr,Us _ (.inl rfl),FP (by first|(left;omega)|(right;exact⟨by omega,by assumption⟩))];(first|done|rw[hb]|rw[ha])⟩,by dsimp only;omega,?_⟩;dsimp only;(conv=>whnf);(refine vU.uw h0 [5] rfl rfl rfl (by first|rfl|(simp only[Zl,Zh,Z2 _ (Zo _),zB,zF]<;>rfl)) ?_ ?_<;>(repeat'(first|(with_reducible rfl)|(exact Zk (Zo _) (Zd _ (Zo _)))|(exact Zk (Zo _) (by(simp[zg,YG,Z3])))|(exact YA rfl (by first|(simp;done)|omega|(simp;omega)))|(exact z8 (SV.int _) (by first|omega|(simp(disch:=omega) only[wI,Z9,Zp]<;>omega)|(simp;done)|(simp<;>omega)))|((conv=>whnf);refine⟨?_,?_⟩)|exact trivial|(simp only[ur,uS];done)|rfl)));done)
   |(refine⟨(out,p+1,q),⟨by dsimp only;omega,by dsimp only;omega,by dsimp only;omega,by dsimp only;rw[hb,hr,Us _ (.inl rfl),FQ ⟨by omega,by assumption⟩];(first|done|rw[hb]|rw[ha])⟩,by dsimp only;omega,?_⟩;dsimp only;(conv=>whnf);exact vU.cA h0;done)
 .have hb:=FR (A:=B) (i:=j) jg hB;have ha:(A.drop (i+p)).take (n-p)=[]:=by rw[show n-p=0 by omega];rfl
  rw[ha,hb]at hr;conv=>whnf
  repeat'(first|refine Z4 4 Cg ?_|refine Z4 9 Ch ?_|refine wh.mk (fun _ _=>?_)|refine CALL.value (Xc _ _) rfl rfl ?_|refine u6.mk (Zn 224 rfl rfl rfl (by simp) (by omega)) ?_|refine GET.at (row:=Z3 (B[j+q]'(by omega))) (Vc (by omega) (by omega)) ?_|refine GET.at (row:=Z3 (out[out.length-1]'(by omega))) (Vc (by omega) (by rw[uE (by omega)];omega)) ?_|refine AU ?_|refine IW ?_ ?_<;>intro h<;>try omega)<;>conv=>whnf
  all_goals first
   |(refine⟨(out++ [B[j+q]'(by omega)],p,q+1),⟨by dsimp only;omega,by dsimp only;omega,by simp only[zh,List.length_cons,List.length_nil];omega,by dsimp only;rw[ha,hr,VA _ (.inl rfl),FP (by first|(left;omega)|(right;exact⟨by omega,by assumption⟩))];(first|done|rw[hb]|rw[ha])⟩,by dsimp only;omega,?_⟩;dsimp only;(conv=>whnf);(refine vU.uw h0 [5] rfl rfl rfl (by first|rfl|(simp only[Zl,Zh,Z2 _ (Zo _),zB,zF]<;>rfl)) ?_ ?_<;>(repeat'(first|(with_reducible rfl)|(exact Zk (Zo _) (Zd _ (Zo _)))|(exact Zk (Zo _) (by(simp[zg,YG,Z3])))|(exact YA rfl (by first|(simp;done)|omega|(simp;omega)))|(exact z8 (SV.int _) (by first|omega|(simp(disch:=omega) only[wI,Z9,Zp]<;>omega)|(simp;done)|(simp<;>omega)))|((conv=>whnf);refine⟨?_,?_⟩)|exact trivial|(simp only[ur,uS];done)|rfl)));done)
   |(refine⟨(out,p,q+1),⟨by dsimp only;omega,by dsimp only;omega,by dsimp only;omega,by dsimp only;rw[ha,hr,VA _ (.inl rfl),FQ ⟨by omega,by assumption⟩];(first|done|rw[hb]|rw[ha])⟩,by dsimp only;omega,?_⟩;dsimp only;(conv=>whnf);exact vU.cA h0;done)
 .have ha:(A.drop (i+p)).take (n-p)=[]:=by rw[show n-p=0 by omega];rfl
  have hb:(B.drop (j+q)).take (m-q)=[]:=by rw[show m-q=0 by omega];rfl
  rw[ha,hb,Zc1]at hr;conv=>whnf
  repeat'(first|refine IW ?_ ?_<;>intro h<;>try omega)<;>conv=>whnf
  rw[hr];exact u0.rows h0 2 16 out.length rfl rfl rfl (Zo _) ⟨rfl,rfl,rfl⟩
theorem MH{K:Type}[DecidableEq K]{c:K->K->Int}(h:qJ c)(l:List K):(UY c l).length<=l.length:=by
 rw[Fx h _ l (zo _)];exact Km l
theorem Ci(A:List Qd)(hA:A.length*224<=140737488351232):∀(k n i:Nat) (hk:n<=k) (hi:i+n<=A.length),vS prog uf 82 1 [.sl (.loc 0) i 16 n none] [] [(0, .rows 16 (A.map Z3))] (tC Z3 16 1 (UY ZP ((A.drop i).take n)))
 |k,n,i,hk,hi=>by
  obtain⟨l,hl⟩:∃l,l=(A.drop i).take n:=⟨_,rfl⟩;have eW:l.length=n:=by rw[hl];simp;omega
  have hrows:((A.map Z3).drop i).take n=l.map Z3:=by rw[hl,xQ,List.map_drop]
  rw[<-hl];refine vS.enter Z0 call82 func82 rfl 22 rfl rfl [.tmp 2] rfl ?_;intro w0 F η0 h0;conv=>whnf
  repeat'(first|rw[hrows]|refine u6.mk (Zn 224 rfl rfl (by rw[zy];exact eW) (by simp) (by omega)) ?_|refine IW ?_ ?_<;>intro h<;>try omega)<;>conv=>whnf
  .have hs:UY ZP l=l:=by unfold UY;rw[zf (by omega)]
   rw[hs];rw[zx];exact u0.rows h0 2 16 n rfl rfl rfl (Zo _) ⟨by rw[eW],rfl,rfl⟩
  .have hs:UY ZP l=Yg ZP [] (UY ZP (l.take (n/2))) (UY ZP (l.drop (n/2))):=by
    conv=>lhs;unfold UY
    rw[z7 (by omega),eW]
   have e1:l.take (n/2)=(A.drop i).take (n/2):=by rw[hl,xT,x7 (by omega)]
   have e2:l.drop (n/2)=(A.drop (i+n/2)).take (n-n/2):=by rw[hl,List.drop_take,yB]
   have hn2:2<=n:=by omega
   obtain⟨k',rfl⟩:∃k',k=k'+1:=⟨k-1,by omega⟩;have r1:=Ci A hA k' (n/2) i (by omega) (by omega);have r2:=Ci A hA k' (n-n/2) (i+n/2) (by omega) (by omega);rw[<-e1]at r1;rw[<-e2]at r2;have l1:=MH kH (l.take (n/2));have l2:=MH kH (l.drop (n/2));generalize UY ZP (l.take (n/2))=X at r1 hs l1;generalize UY ZP (l.drop (n/2))=Y at r2 hs l2;have r3:=Z6s X Y 0 X.length 0 Y.length none none (by omega) (by omega) (by simp at l1 l2;omega);rw[yN,y8,yN,y8,<-hs]at r3;have hw:IntKind.i64.wrap (Int.tdiv (n:Int) 2)=((n/2:Nat):Int):=by rw[xe (by omega),Z9 (by omega) (by omega)];omega
   repeat'(first|refine Z4 3 Zg7 ?_|refine wh.mk (fun _ _=>?_)|refine AD ?_|rw[hw]|rw[Int.toNat_natCast]|refine AU ?_)<;>conv=>whnf
   refine CALL.aA [0] (r1) ?_;rintro r O nx ⟨rfl,rfl,rfl⟩;conv=>whnf
   repeat'(first|refine wh.mk (fun _ _=>?_))<;>conv=>whnf
   refine CALL.aA [0] (r2) ?_;rintro r O nx ⟨rfl,rfl,rfl⟩;conv=>whnf
   repeat'(first|refine wh.mk (fun _ _=>?_))<;>conv=>whnf
   refine CALL.aA [1,2] (r3) ?_;rintro r O nx ⟨rfl,rfl,rfl⟩;conv=>whnf
   skip
   refine u0.aA h0 [3] (.sl (.loc 1) 0 16 (UY ZP l).length none) [(1, .rows 16 ((UY ZP l).map Z3))] ?_;exact⟨rfl,rfl,rfl⟩
end Go.Proofs.YtlcbipfmodcedaaGreatDoor
