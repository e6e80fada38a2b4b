/- Part 30: Can2, Can3, Can4, Can5. Conditions: as each part says. -/
import Derived.Test.YtlcbipfmodcedaaGreatDoorCiso29
set_option linter.unusedVariables false
set_option linter.unusedSimpArgs false
set_option maxRecDepth 20000
set_option maxHeartbeats 8000000
namespace Go.Proofs.YtlcbipfmodcedaaGreatDoor
open Go.Sx Go.Our
open _root_.Go.Proofs.Tryz
def ZiK:uJ:=(ZI [(1,1),(5,1),(10,1),(14,1),(0,2),(2,1),(3,2),(4,2),(6,1),(7,2),(9,2),(11,1),(12,2),(13,2),(15,1),(16,2),(8,3),(17,3),(18,3),(19,3),(20,1)])
theorem ZbK{a b:List Qd}{i:Nat}(ha:i<a.length)(hb:i<b.length):Yh (a.drop i) (b.drop i)=if ZJ a[i] b[i]=0 then Yh (a.drop (i+1)) (b.drop (i+1))else ZJ a[i] b[i]:=by
 rw[zQ ha,zQ hb];rfl
theorem Ss(a b:List Qd)(la lb:Option Nat)(ha:a.length<=1152921504606846976)(hb:b.length<=1152921504606846976):vW prog uv 37 2 [.sl (.loc 0) 0 16 a.length la, .sl (.loc 1) 0 16 b.length lb] [] [(0, .rows 16 (a.map Zd)),(1, .rows 16 (b.map Zd))] (qd 2 (.int .i64 (Yh a b))):=by
 have hC:vW prog uv 76 2 [.sl (.loc 0) 0 16 a.length la, .sl (.loc 1) 0 16 b.length lb, .fn (.func 47) [] []] [] [(0, .rows 16 (a.map Zd)),(1, .rows 16 (b.map Zd))] (qd 2 (.int .i64 (Yh a b))):=by
  have gA:∀{i k:Nat} (h:i<a.length),k=i->(a.map Zd)[k]?=some (Zd a[i]):=fun h e=>by subst e;rw[z7,z1 h];rfl
  have gB:∀{i k:Nat} (h:i<b.length),k=i->(b.map Zd)[k]?=some (Zd b[i]):=fun h e=>by subst e;rw[z7,z1 h];rfl
  refine vW.enter Z3 call76 func76 rfl 39 rfl rfl [.tmp 6] rfl ?_;intro w0 F η0 h0;conv=>whnf
  skip
  refine ua.j5 Z3 [0,1,2,11,12] [] (X:=Nat) (fun i=>i<=a.length/\i<=b.length/\Yh a b=Yh (a.drop i) (b.drop i)) (fun i=>[(13, .int .i64 (i:Int))]) (fun i=>[]) 2 (fun i=>a.length-i) 0 ⟨by omega,by omega,rfl⟩ ?_;conv=>whnf
  refine⟨by exact vY.cA h0,?_⟩;rintro i ⟨hi,hib,he⟩;conv=>whnf
  by_cases oR:i<a.length
  .repeat'(first|refine GET.at (gA oR (by omega)) ?_|refine AU ?_|refine IW ?_ ?_<;>intro h<;>try omega)<;>conv=>whnf
   .refine u9.uh h0 rfl (zf (SV.int _) ?_);have:i=b.length:=by omega
    subst this;rw[he,yG (zn _),zQ oR];rfl
   have GM:i<b.length:=by omega
   have hd:=ZbK oR GM;repeat'(first|refine GET.at (gB GM (by omega)) ?_|refine CALL.value (Cv a[i] b[i]) rfl rfl ?_|refine IW ?_ ?_<;>intro h<;>try omega)<;>conv=>whnf
   exact u9.uh h0 rfl (zf (SV.int _) (by rw[he,hd,z6 ‹_›]))
   .refine⟨i+1,⟨by omega,by omega,by rw[he,hd,z8 ‹_›]⟩,by omega,?_⟩;conv=>whnf
    exact vY.cA h0
  .have hie:i=a.length:=by omega
   subst hie;repeat'(first|refine IW ?_ ?_<;>intro h<;>try omega)<;>conv=>whnf
   .refine u9.uh h0 rfl (zf (SV.int _) ?_);have h2:a.length<b.length:=by omega
    rw[he,yG (zn _),zQ h2];rfl
   .refine u9.uh h0 rfl (zf (SV.int _) ?_);rw[he,yG (zn _),yG (by omega)];rfl
 refine vW.enter Z3 call37 func37 rfl 8 rfl rfl [.tmp 4] rfl ?_;intro w0 F η0 h0;conv=>whnf
 skip
 refine CALL.aA [0,1] (hC) ?_;rintro r O nx ⟨rfl,rfl,rfl⟩;conv=>whnf
 skip
 exact u9.uh h0 rfl rfl
theorem Zgx{C:Cx}{O:u0}{nx y:Nat}{h g:Hp}(hy:y≠nx)(h1:Yv C O (.loc y)=some g):Yv {C with S:=(.loc nx,h)::C.S} O (.loc y)=some g:=by
 simp only[Yv]at h1⊢;split
 rename_i h2;rw[h2]at h1;exact h1
 .rename_i h2;rw[h2]at h1;have:Nat.beq y nx=false:=by rw[<-Bool.not_eq_true];intro h3;exact hy (Nat.eq_of_beq_eq_true h3)
  simp only[kI,aZ,this];exact h1
theorem Sv{C:Cx}{O:u0}{nx:Nat}{h:Hp}(hO:u6 nx O=none):Yv {C with S:=(.loc nx,h)::C.S} O (.loc nx)=some h:=by
 simp only[Yv,hO,kI,aZ,Nat.beq_refl]
theorem CALL.GN{M:Mx}{f:FuncId}{O:u0}{nx es:Nat}{K:SV->u0->Nat->Prop}{u v:Value}{rs qs:List (List SV)}{en eP:Option qJ}{r:SV}(hu:wN M.w0 u es rs en)(hv:wN M.w0 v es qs eP)(hF:∀k, ¬M.F k)(hO:u6 nx O=none)(hO1:u6 (nx+1) O=none)
 (sp:vW M.P M.C.T f 2 [.sl (.loc 0) 0 es rs.length none, .sl (.loc 1) 0 es qs.length none] [] [(0, .rows es rs),(1, .rows es qs)] (qd 2 r)) (cK:Zj rs=true) (FA:Zj qs=true) (hr:plain r=true) (hK:K r O (nx+1+1)):CALL M f [.val u, .val v] O nx K:=by
 refine CALL.Gu [] [.val v] hu hF rfl (fun η1=>?_);refine CALL.Gu (M:=⟨M.P,{M.C with S:=(.loc nx, .rows es rs)::M.C.S},M.w0,M.F,η1,none⟩) [.sl (.loc nx) 0 es rs.length none] [] hv hF rfl (fun η2=>?_);refine CALL.looks [nx,nx+1] sp rfl (by simp[yU];omega) rfl rfl ⟨⟨rfl,?_,Zh cK⟩,⟨rfl,?_,Zh FA⟩,trivial⟩ (by rw[Xh _ hr];exact hK)
 .rw[Ze _ (h:= .rows es rs) cK];exact Zgx (Nat.ne_of_lt (Nat.lt_succ_self _)) (Sv hO)
 .rw[Ze _ (h:= .rows es qs) FA];exact Sv hO1
def iL(v:Value):List SV:=[.val v]
instance :bu iL:=⟨fun _=>rfl⟩
theorem or2(a b:Int):oN [a,b]=if a=0 then b else a:=by
 simp only[oN];by_cases h:a=0
 subst h;by_cases h2:b=0<;>simp[h2];simp[h]
theorem Z7V(A:List LB)(l:List Qd)(cl:List Int)(vs:List Value)(a b:Nat)(ha:a<cl.length)(hb:b<cl.length)(hvl:vs.length=cl.length)(hl:∀x,(YQ A l cl x).length<=1152921504606846976):
 pR (fun w=> ∀x (h:x<vs.length),∃en,wN w vs[x] 16 ((YQ A l cl x).map Zd) en) prog uv 103 4 [.int .i64 (a:Int), .int .i64 (b:Int), .ptr (.loc 0) 0 0 0, .ptr (.loc 1) 0 0 0] [] [(0, .box [.sl (.loc 2) 0 1 cl.length none]),(1, .box [.sl (.loc 3) 0 1 cl.length none]),(2, .rows 1 (cl.map Z8)),(3, .rows 1 (vs.map iL))] (qd 4 (.int .i64 (Vw A l cl a b))):=by
 have gC:∀{i k:Nat} (h:i<cl.length),k=i->(cl.map Z8)[k]?=some (Z8 cl[i]):=fun h e=>by subst e;rw[z7,z1 h];rfl
 have gV:∀{i k:Nat} (h:i<vs.length),k=i->(vs.map iL)[k]?=some (iL vs[i]):=fun h e=>by subst e;rw[z7,z1 h];rfl
 refine vW.pS Z3 call103 func103 rfl 27 rfl rfl [.tmp 6] rfl ?_;intro w0 F η0 h0 hG hF;conv=>whnf
 have hno:∀k, ¬F k:=fun k h=>by rw[hF]at h;simp[Yz,u6]at h
 obtain⟨ea,hU⟩:=hG a (by omega);obtain⟨eb,hV⟩:=hG b (by omega);repeat'(first|refine GET.at (gC ha (by omega)) ?_|refine GET.at (gC hb (by omega)) ?_|refine GET.at (gV (i:=a) (by omega) (by omega)) ?_|refine GET.at (gV (i:=b) (by omega) (by omega)) ?_|(refine qW.mkH (fun η1 w1 H1=>?_);(have hu1:=hU.now H1.fr hno);(have hv1:=hV.now H1.fr hno))|refine CALL.value (MF cl[a] cl[b]) rfl rfl ?_|(show uK _ _ _ _ _ _ _;first|refine Zs 1 ZiK ?_)|refine AD ?_|refine AU ?_)<;>conv=>whnf
 have hls:=Ss (YQ A l cl a) (YQ A l cl b) none none (hl a) (hl b);rw[show(YQ A l cl a).length=((YQ A l cl a).map Zd).length from(zj ..).symm,show(YQ A l cl b).length=((YQ A l cl b).map Zd).length from(zj ..).symm]at hls;refine CALL.GN hu1 hv1 (fun k h=>h) rfl rfl hls (Za _) (Za _) rfl ?_;conv=>whnf
 repeat'(first|refine CALL.looks [6] (Cu [wP cl[a] cl[b],Yh (YQ A l cl a) (YQ A l cl b)] (by simp)) rfl rfl rfl rfl ⟨⟨rfl,rfl,rfl⟩,trivial⟩ ?_|refine qW.mk (fun _ _=>?_))<;>conv=>whnf
 refine u9.uh h0 rfl (zf (SV.int _) ?_);unfold Vw;rw[or2,zi,zi,z1 ha,z1 hb];rfl
end Go.Proofs.YtlcbipfmodcedaaGreatDoor
namespace Go.Proofs.YtlcbipfmodcedaaGreatDoor
open Go.Sx Go.Our
open _root_.Go.Proofs.Tryz
def ZiL:uJ:=(ZI [(0,1),(1,1),(2,1),(4,1),(5,1),(6,1),(3,2),(7,2),(8,3),(9,1)])
def az(A:List LB)(cl:List Int)(x:Nat)(q:Qd)(j:Nat):Qd:=⟨if 0<j then Xn A cl x q.s else q.s,if 1<j then Xn A cl x q.p else q.p,if 2<j then Xn A cl x q.o else q.o,if 3<j then Xn A cl x q.g else q.g⟩
theorem ZiM(A:List LB)(cl:List Int)(x:Nat)(q:Qd):az A cl x q 0=q:=rfl
theorem ZiN(A:List LB)(cl:List Int)(x:Nat)(q:Qd):az A cl x q 4=lM A cl x q:=rfl
def GO(n:Nat)(lim:Option Nat)(nl:Nat):Hp:= .box [.sl (.loc 1) 0 16 n lim, .sl (.loc 5) 0 1 nl (some nl), .mp (.loc 2), .sl (.loc 3) 0 1 nl none]
theorem Sw{A:List LB}{l:List Qd}{x k:Nat}(h:k∈nQ A l x):k<l.length:=zY.1 (yY.1 h).1
theorem ZiO{A:List LB}{cl:List Int}{x:Nat}{t:Tm}(h:¬t.k=2):Xn A cl x t=t:=z6 h
theorem ZiP{A:List LB}{cl:List Int}{x:Nat}{t:Tm}(h:t.k=2)(hx:A.idxOf t.t=x):Xn A cl x t=⟨t.k,[120],t.y,t.l⟩:=by unfold Xn;rw[z8 h,z8 hx]
theorem ZiQ{A:List LB}{cl:List Int}{x:Nat}{t:Tm}(h:t.k=2)(hx:¬A.idxOf t.t=x):Xn A cl x t=⟨t.k,iJ (cl.getD (A.idxOf t.t) 0).toNat,t.y,t.l⟩:=by unfold Xn;rw[z8 h,z6 hx]
theorem Zex{I:List (List Nat)}{i k n:Nat}{sv:SV}(h:i<I.length)(hk:k=i)(hn:n=I[i].length):uw ((j6 I).modify k fun row=>row.set 0 (DC.v sv)) i 0 (.uC 1 ((I[i].map Yx).take n))=j6 I:=by
 subst hk;exact Sn h rfl hn
theorem Zey(A:List LB)(l z:List Qd)(lim:Option Nat)(cl:List Int)(x:Nat)(hx:x<A.length)(gh:cl.length=A.length)(s4:A.length<=4096)(hl:l.length<=1048576)(hnd:A.Nodup)(hmem:∀s∈ZR l,s∈A)(fL:∀c∈cl,0<=c/\c<10000)(hz:(l++z).length<=1152921504606846976):
 vW prog uv 102 6 [.ptr (.loc 0) 0 0 0, .int .i64 (x:Int), .sl (.loc 4) 0 1 A.length none] [(3, .deep false 1 (j6 (qx A l)))] [(0,GO l.length lim A.length),(1, .rows 16 ((l++z).map Zd)),(2, .mp (kz (X0 0 A A.length))),(4, .rows 1 (cl.map Z8))]
 (fun r O nx=>r= .sl (.loc 6) 0 16 (YQ A l cl x).length none/\O=[(3, .deep false 1 (j6 (qx A l))),(6, .rows 16 ((YQ A l cl x).map Zd))]/\nx=7):=by
 have hIl:(qx A l).length=A.length:=by simp[qx]
 have A9:x< (qx A l).length:=by omega
 have hIx:(qx A l)[x]=nQ A l x:=by simp[qx]
 have nT:=Gp (b:=0) hnd;have hLl:(nQ A l x).length<=1048576:=by rw[<-S9];exact zK (A3 ..) hl
 have Aa:∀k∈nQ A l x,k<l.length:=fun k hk=>Sw hk;obtain⟨V,hV⟩:∃V,V=UC A l cl x:=⟨_,rfl⟩;have Ab:V.length=(nQ A l x).length:=by rw[hV];unfold UC;rw[zj]
 refine vW.enter Z3 call102 func102 rfl 74 rfl rfl [.tmp 6] rfl ?_;intro w0 F η0 h0;conv=>whnf
 repeat'(first|refine wZ.at (ZiJ A9 (by omega)) ?_|refine AU ?_)<;>conv=>whnf
 rw[show(List.map Yx (qx A l)[x]).length=(nQ A l x).length by rw[zj,hIx]];obtain⟨L,hL⟩:∃L,L=nQ A l x:=⟨_,rfl⟩;have hrows:(qx A l)[x].map Yx=L.map Yx:=by rw[hIx,hL]
 rw[hrows];rw[<-hL]at hLl Aa Ab⊢
 have Sy:∀i (h:i<L.length),V[i]'(by omega)=lM A cl x (l[L[i]]'(Aa _ (zq h))):=fun i h=>by
  subst hV hL;unfold UC;rw[y9,zi,z1 (Sw (zq h))];rfl
 refine ua.nil 7 16 rfl ?_;refine ua.j5 Z3 [0,1,2,20,21] [3,6] (X:=Nat) (fun i=>i<=L.length) (fun i=>[(22, .int .i64 (i:Int)),(7, .sl (.loc 7) 0 16 i none)]) (fun i=>[(7, .rows 16 ((V.take i).map Zd))]) 8 (fun i=>L.length-i) 0 (by omega) ?_;conv=>whnf
 refine⟨by exact vY.cA h0,?_⟩;intro i hi;have aW:(V.take i).length=i:=by rw[zA];omega
 conv=>whnf
 by_cases hil:i<L.length
 .have hk:=Aa _ (zq hil);obtain⟨q,hq⟩:∃q,q=l[L[i]]:=⟨_,rfl⟩;have Sz:=Sy i hil;rw[<-hq]at Sz;have oG:∀s∈ZB q,s∈A:=fun s hs=>hmem s (xy.2 ⟨q,by rw[hq];exact zq hk,hs⟩);have gL:∀{m:Nat},m=i->(L.map Yx)[m]?=some (Yx L[i]):=fun e=>by subst e;rw[z7,z1 hil];rfl
  have gQ:∀{m:Nat},m=L[i]->((l++z).map Zd)[m]?=some (Zd q):=fun e=>by subst e;rw[hq,z7,zu hk,z1 hk];rfl
  have hT:=Sj q;have hto:(V.take (i+1))=V.take i++ [lM A cl x q]:=by rw[zB (by omega),Sz]
  generalize V.take i=W at aW hto⊢;clear Sy hIx hV;repeat'(first|refine GET.at (gL (by omega)) ?_|refine GET.at (gQ (by omega)) ?_|refine AU ?_|refine IW ?_ ?_<;>intro h<;>try omega)<;>conv=>whnf
  refine CALL.aA [8] (hT) ?_;rintro r O nx ⟨rfl,rfl,rfl⟩;conv=>whnf
  skip
  refine ua.j5 Z3 [0,1,2,7,10,20,21,22,33] [3,6,7] (X:=Nat) (fun j=>j<=4) (fun j=>[(34, .int .i64 (j:Int))]) (fun j=>[(8, .box (Zd (az A cl x q j)))]) 9 (fun j=>4-j) 0 (by omega) ?_;conv=>whnf
  refine⟨by rw[ZiM];exact vY.cA h0,?_⟩;intro j hj;conv=>whnf
  by_cases tN:j<4
  .have Ac:j=0\/j=1\/j=2\/j=3:=by omega
   obtain⟨X,hX⟩:∃X,X=j:=⟨_,rfl⟩;rcases Ac with rfl|rfl|rfl|rfl
   all_goals rw[<-hX]at tN
   all_goals first
    |(rw[show az A cl x q 0=⟨q.s,q.p,q.o,q.g⟩from rfl];obtain⟨t,ht,hsub,Qw⟩:∃t,t=q.s/\(t.k=2->t.t∈A)/\∀u,Xn A cl x t=u->az A cl x q (X+1)=⟨u,q.p,q.o,q.g⟩:=⟨_,rfl,fun h2=>oG _ (by unfold ZB ZV;simp[h2]),fun u hu=>by subst hX;unfold az;simp[hu]⟩)
    |(rw[show az A cl x q 1=⟨Xn A cl x q.s,q.p,q.o,q.g⟩from rfl];obtain⟨t,ht,hsub,Qw⟩:∃t,t=q.p/\(t.k=2->t.t∈A)/\∀u,Xn A cl x t=u->az A cl x q (X+1)=⟨Xn A cl x q.s,u,q.o,q.g⟩:=⟨_,rfl,fun h2=>oG _ (by unfold ZB ZV;simp[h2]),fun u hu=>by subst hX;unfold az;simp[hu]⟩)
    |(rw[show az A cl x q 2=⟨Xn A cl x q.s,Xn A cl x q.p,q.o,q.g⟩from rfl];obtain⟨t,ht,hsub,Qw⟩:∃t,t=q.o/\(t.k=2->t.t∈A)/\∀u,Xn A cl x t=u->az A cl x q (X+1)=⟨Xn A cl x q.s,Xn A cl x q.p,u,q.g⟩:=⟨_,rfl,fun h2=>oG _ (by unfold ZB ZV;simp[h2]),fun u hu=>by subst hX;unfold az;simp[hu]⟩)
    |(rw[show az A cl x q 3=⟨Xn A cl x q.s,Xn A cl x q.p,Xn A cl x q.o,q.g⟩from rfl];obtain⟨t,ht,hsub,Qw⟩:∃t,t=q.g/\(t.k=2->t.t∈A)/\∀u,Xn A cl x t=u->az A cl x q (X+1)=⟨Xn A cl x q.s,Xn A cl x q.p,Xn A cl x q.o,u⟩:=⟨_,rfl,fun h2=>oG _ (by unfold ZB ZV;simp[h2]),fun u hu=>by subst hX;unfold az;simp[hu]⟩)
   all_goals
    repeat'(first|refine ud.mk ⟨by omega,by omega,rfl⟩ ?_|refine GET.at (row:=_) rfl ?_|(show uK _ _ _ _ _ _ _;first|refine Zs 10 ZiL ?_)|refine qW.mk (fun _ _=>?_)|refine AD ?_|refine w6.mk ?_ ?_|refine AU ?_|refine IW ?_ ?_<;>intro h<;>try omega)<;>conv=>whnf
    .refine⟨X+1,by omega,by omega,?_⟩;rw[Qw _ (ZiO (by rw[ht];assumption)),ht];conv=>whnf
     exact vY.cA h0
    have h2:t.k=2:=by rw[ht];exact h
    have s5:t.t∈A:=hsub h2;have jO:=zy s5;have iK:A[A.idxOf t.t]=t.t:=zV jO;have bU:wq 0 A t.t=((A.idxOf t.t:Nat):Int):=by unfold wq;rw[z8 s5];omega
    refine ud.mk ⟨KT.ok _,YW KT qj _⟩ ?_;rw[<-ht];refine jx.A KT qj t.t (X0 0 A A.length) (fun i v hf=>?_) (fun hf=>?_)
    rotate_left
    .have hg:=WO (b:=0) hnd A.length t.t (zn _);rw[VS hf,yx jO]at hg;cases hg
    have hv:=WN hf;rw[nT,bU]at hv;subst hv;obtain⟨n0,hn0⟩:∃n0,n0=A.idxOf t.t:=⟨_,rfl⟩;rw[<-hn0]at jO⊢
    have gC:∀{m:Nat},m=n0->(cl.map Z8)[m]?=some (Z8 ((cl[n0]'(by omega)).toNat:Int)):=fun{m} e=>by
     rw[e,z7,z1 (by omega)];have:=(fL _ (zq (show n0<cl.length by omega))).1;rw[Int.toNat_of_nonneg this];rfl
    have hcb:=fL _ (zq (show n0<cl.length by omega));have hdg:=Z99 (cl[n0]'(by omega)).toNat (by omega);clear oG gL gQ hf;conv=>whnf
    repeat'(first|refine GET.at (gC (by omega)) ?_|refine CALL.value (hdg) rfl rfl ?_|refine AU ?_|refine IW ?_ ?_<;>intro h<;>try omega)<;>conv=>whnf
    .refine⟨X+1,by omega,by omega,?_⟩;rw[Qw _ (ZiP h2 (show A.idxOf t.t=x by omega))];conv=>whnf
     exact vY.cA h0
    .refine⟨X+1,by omega,by omega,?_⟩;have hne:¬A.idxOf t.t=x:=by omega
     have eO:=ZiQ (cl:=cl) h2 hne;rw[<-hn0,zi,z1 (show n0<cl.length by omega),Option.getD_some]at eO;rw[Qw _ eO];conv=>whnf
     exact vY.cA h0
  .have tN:j=4:=by omega
   subst tN;rw[ZiN];repeat'(first|refine ud.mk (Ye 224 rfl rfl (by simp) (by simp;omega) (by omega)) ?_|refine AU ?_|refine IW ?_ ?_<;>intro h<;>try omega)<;>conv=>whnf
   all_goals
    rw[BD W (lM A cl x q) aW.symm,<-hto];refine⟨i+1,by omega,by omega,?_⟩;conv=>whnf
    exact vY.kA h0 [6,10]
 .have hie:i=L.length:=by omega
  subst hie;rw[zo (by omega)];have SA:=CG V (by omega);rw[Ab]at SA;repeat'(first|refine AU ?_|refine IW ?_ ?_<;>intro h<;>try omega)<;>conv=>whnf
  refine CALL.aA [7] (SA) ?_;rintro r O nx ⟨rfl,rfl,rfl⟩;conv=>whnf
  repeat'(first|refine AU ?_|refine IW ?_ ?_<;>intro h<;>try omega)<;>conv=>whnf
  have iq:YQ A l cl x=V.mergeSort (wW ZJ):=by unfold YQ;rw[hV]
  have fZ:(YQ A l cl x).length=L.length:=by rw[iq,yE,Ab]
  rw[<-iq,<-hrows];refine uZ.fin (uZ.jL 3 x 0 6 rfl (HV A9 (by omega)) rfl rfl (by rw[zj,hIx];rw[hL];exact zn _) (by decide)) ?_;rw[Zex A9 (by omega) (by rw[hIx];exact zf List.length hL)];rw[<-fZ];exact u9.aA h0 [7] (.sl (.loc 6) 0 16 (YQ A l cl x).length none) [(3, .deep false 1 (j6 (qx A l))),(6, .rows 16 ((YQ A l cl x).map Zd))] ⟨rfl,rfl,rfl⟩
end Go.Proofs.YtlcbipfmodcedaaGreatDoor
namespace Go.Proofs.YtlcbipfmodcedaaGreatDoor
open Go.Sx Go.Our Go.Shelf
open _root_.Go.Proofs.Tryz
def lQ(s:List Qd):List DC:=[.uC 16 (s.map Zd)]
def dJ(sg:List (List Qd)):List (List DC):=sg.map lQ
theorem SB:∀sg:List (List Qd),ZD (dJ sg)=true
 | []=>rfl
 |s::sg=>by simp only[dJ,zL,lQ,ZD,Yi,Jl,Za,zS,xF];exact SB sg
instance {sg:List (List Qd)}:bQ (dJ sg):=⟨SB sg⟩
theorem Ad{sg:List (List Qd)}{i:Nat}(h:i<sg.length):(dJ sg)[i]?=some (lQ sg[i]):=by unfold dJ;rw[z7,z1 h];rfl
theorem ZiR(sg:List (List Qd)):(dJ sg).length=sg.length:=by simp[dJ]
theorem ZiS{sg:List (List Qd)}{i k:Nat}(h:i<sg.length)(hk:k=i):WT (dJ sg) k 0=some (k, .uC 16 (sg[i].map Zd)):=by
 subst hk;unfold WT;rw[Ad h];rfl
theorem ZbL(n:Nat):Be (List.replicate n [SV.val (.slice none 0 0)]) (dJ (List.replicate n [])):=by
 refine⟨by simp[dJ],fun a row' h=>?_⟩;unfold dJ at h;rw[x7]at h;obtain⟨ha,hr⟩:=zg.1 h;rw[zT]at ha;rw[xw]at hr;subst hr;refine⟨_,by rw[xk,z8 ha],?_⟩;exact And.intro (.inr ⟨rfl,16,rfl⟩) trivial
theorem ZiT{sg:List (List Qd)}{x k:Nat}{s:List Qd}{rows:List (List SV)}{n:Nat}(hk:k=x)(hr:rows.take n=s.map Zd):uw (dJ sg) k 0 (.uC 16 (rows.take n))=dJ (sg.set x s):=by
 subst hk;exact Zgj (es:=16) (f:=Zd) rfl hr
theorem Zkw{K:Env}{w:World}{i:Nat}{sg:List (List Qd)}{R:List (List SV)}(h:dH K w i 1 (dJ sg) R):∃vs:List Value,vs.length=sg.length/\R=vs.map iL/\∀x (hx:x<vs.length) (hs:x<sg.length),∃en,wN w vs[x] 16 (sg[x].map Zd) en:=by
 have hl:=h.len;rw[ZiR]at hl
 have key:∀x (hx:x<sg.length),∃v,R[x]?=some [.val v]/\∃en,wN w v 16 (sg[x].map Zd) en:=fun x hx=>by
  obtain⟨bh,v,h1,h2,h3⟩:=h.ck x 0 (lQ sg[x]) 16 (sg[x].map Zd) (Ad hx) rfl;have h4:=h.lens x _ _ (Ad hx) h1;obtain⟨en,h5⟩:=Zgw h3 (Za _);refine⟨v,?_,en,h5⟩;rw[h1]
  match bh,h2,h4 with
  | [c],h2,_=>
    simp only[List.getElem?_cons_zero,zh]at h2;rw[h2]
 let vf:Nat->Value:=fun x=>match R[x]? with|some (.val v::_)=>v|_=>undef
 refine⟨(List.range sg.length).map vf,by simp,?_,fun x hx hs=>?_⟩
 .apply yj;intro x;by_cases hx:x<sg.length
  .obtain⟨v,h1,_⟩:=key x hx;rw[h1,z7,z7,yz hx];simp only[Option.map_some,iL,vf,h1]
  rw[yd (by omega),yd (by simp;omega)]
 .obtain⟨v,h1,en,h2⟩:=key x hs;refine⟨en,?_⟩;simp only[y9,yS,vf,h1];exact h2
theorem Ae{M:Mx}{O:u0}{K:Env}{w:World}{i es j:Nat}{R:List (List SV)}(h:j≠i):Yv (rY M O K w i es R).C [] (.loc j)=Yv M.C O (.loc j):=by
 have hb:Nat.beq j i=false:=by rw[<-Bool.not_eq_true];intro h3;exact h (Nat.eq_of_beq_eq_true h3)
 have e:Yv (rY M O K w i es R).C [] (.loc j)=kI (.loc j) (UM O++M.C.S):=by
  simp only[Yv,u6,rY,kI,aZ,hb];rfl
 exact e.trans WF
theorem ZeA{M:Mx}{O:u0}{K:Env}{w:World}{i es:Nat}{R:List (List SV)}:Yv (rY M O K w i es R).C [] (.loc i)=some (.rows es R):=by
 simp only[Yv,u6,rY,kI,aZ,Nat.beq_refl]
def lR(A:List LB)(l:List Qd)(cl:List Int):List (List Qd):=(List.range cl.length).map (YQ A l cl)
theorem SC{C:Cx}{w0:World}{F:Nat->Prop}{η0:Env}{px:Option (Fr×(SV->u0->Nat->Prop))}{O:u0}{nx:Nat}(A:List LB)(l:List Qd)(cl:List Int)(hT:C.T=uv)(h6:Yv C O (.loc 6)=some (.box [.sl (.loc 4) 0 1 cl.length none]))(h8:Yv C O (.loc 8)=some (.box [.sl (.loc 7) 0 1 cl.length none]))
 (h4:Yv C O (.loc 4)=some (.rows 1 (cl.map Z8))) (h7:u6 7 O=some (.deep false 1 (dJ (lR A l cl)))) (pH:8<nx) (hl:∀x,(YQ A l cl x).length<=1152921504606846976) (a b:Nat) (ha:a<cl.length) (hb:b<cl.length):
 dI ⟨prog,C,w0,F,η0,px⟩ 103 [.int .i64 (a:Int), .int .i64 (b:Int), .ptr (.loc 6) 0 0 0, .ptr (.loc 8) 0 0 0] O nx (.int .i64 (Vw A l cl a b)):=by
 refine dI.raw h7 rfl fun K w R H hR=>?_;obtain⟨vs,hvl,rfl,eT⟩:=Zkw hR;have fZ:(lR A l cl).length=cl.length:=by simp[lR]
 rw[fZ]at hvl;have HT:∀x (h:x< (lR A l cl).length),(lR A l cl)[x]=YQ A l cl x:=fun x h=>by simp[lR]
 refine CALL.ofW (G:=fun w=> ∀x (h:x<vs.length),∃en,wN w vs[x] 16 ((YQ A l cl x).map Zd) en) [6,8,4,7] (hT▸Z7V A l cl vs a b ha hb hvl hl) (fun η' w' H' x h=>?_) rfl (fun i hi=>?_) rfl rfl (fun p hp=>by cases hp) (fun j hj=>by cases hj) (fun p hp=>?_) ?_
 .obtain⟨en,he⟩:=eT x h (by omega);rw[HT]at he;exact⟨en,he.now H'.fr (fun k h=>h)⟩
 .simp only[zI,xh,or_false]at hi;omega
 .simp only[zI,xh,or_false]at hp;rcases hp with rfl|rfl|rfl|rfl
  exact⟨by show 0<4;omega,(Ae (show(6:Nat)≠7 by omega)).trans h6,rfl,fun h=>by cases h⟩;exact⟨by show 1<4;omega,(Ae (show(8:Nat)≠7 by omega)).trans h8,rfl,fun h=>by cases h⟩
  .refine⟨by show 2<4;omega,?_,Zh (Uv _),fun h=>by cases h⟩;rw[Ze _ (h:= .rows 1 (cl.map Z8)) (Uv _)];exact(Ae (show(4:Nat)≠7 by omega)).trans h4
  .refine⟨by show 3<4;omega,?_,Zh (ZN _ (fun _=>rfl) _),fun h=>by cases h⟩;rw[Ze _ (h:= .rows 1 (vs.map iL)) (ZN _ (fun _=>rfl) _)];exact ZeA
 .rintro r O' vZ ⟨rfl,rfl,rfl⟩
  rfl
open _root_.Go.Proofs.Tryz
def ZiU:uJ:=(.take 1 1 (.take 2 1 (.take 3 1 (.take 4 1 (.take 5 1 (.take 8 1 (.take 6 2 (.fork 0 3 7 0 (ZI [(7,0),(9,1),(10,0),(11,1),(12,0)]) (ZI [(0,2),(9,1),(10,0),(11,1),(12,0)])))))))))
def ZeD:Go.Shelf.Ren:=⟨fun|6=>105|15=>114|14=>137|28=>150|29=>151|20=>182|21=>183|22=>184|23=>185|24=>186|25=>187|26=>188|27=>189|46=>228|47=>196|48=>197|49=>229|50=>230|57=>276|n=>n,fun|22=>72|24=>3|25=>165|3=>3|39=>177|0=>0|53=>157|55=>162|4=>4|46=>208|45=>207|50=>103|5=>5|9=>9|66=>250|70=>87|76=>292|77=>130|n=>n,fun|n=>n⟩
theorem Zle:Go.Proofs.SlLaysF.n6 prog ZeD where
 mixed:=by kernel_rfl
 f6:=⟨f105.name,by decide,func105.trans (zf some (by kernel_rfl))⟩
 f14:=⟨f137.name,by decide,func137.trans (zf some (by kernel_rfl))⟩
 f15:=func114.trans (zf some (by kernel_rfl))
 f20:=⟨f182.name,by decide,func182.trans (zf some (by kernel_rfl))⟩
 f21:=⟨f183.name,by decide,func183.trans (zf some (by kernel_rfl))⟩
 f22:=⟨f184.name,by decide,func184.trans (zf some (by kernel_rfl))⟩
 f23:=⟨f185.name,by decide,func185.trans (zf some (by kernel_rfl))⟩
 f24:=⟨f186.name,by decide,func186.trans (zf some (by kernel_rfl))⟩
 f25:=⟨f187.name,by decide,func187.trans (zf some (by kernel_rfl))⟩
 f26:=⟨f188.name,by decide,func188.trans (zf some (by kernel_rfl))⟩
 f27:=⟨f189.name,by decide,func189.trans (zf some (by kernel_rfl))⟩
 f28:=func150.trans (zf some (by kernel_rfl))
 f29:=func151.trans (zf some (by kernel_rfl))
 f46:=⟨f228.name,by decide,func228.trans (zf some (by kernel_rfl))⟩
 f47:=func196.trans (zf some (by kernel_rfl))
 f48:=func197.trans (zf some (by kernel_rfl))
 f49:=⟨f229.name,by decide,func229.trans (zf some (by kernel_rfl))⟩
 f50:=⟨f230.name,by decide,func230.trans (zf some (by kernel_rfl))⟩
 f57:=⟨f276.name,by decide,func276.trans (zf some (by kernel_rfl))⟩
 t0:=underlying0
 a0:=isAgg0
 z0:=sizeOf0
 v0:=zeroValue0
 t3:=underlying3
 a3:=isAgg3
 z3:=sizeOf3
 v3:=zeroValue3
 t4:=underlying4
 a4:=isAgg4
 z4:=sizeOf4
 v4:=zeroValue4
 t5:=underlying5
 a5:=isAgg5
 z5:=sizeOf5
 v5:=zeroValue5
 t9:=underlying9
 a9:=isAgg9
 z9:=sizeOf9
 v9:=zeroValue9
 t22:=underlying72
 a22:=isAgg72
 z22:=sizeOf72
 v22:=zeroValue72
 a24:=isAgg3
 z24:=sizeOf3
 t25:=underlying165
 a25:=isAgg165
 z25:=sizeOf165
 v25:=zeroValue165
 t39:=underlying177
 a39:=isAgg177
 z39:=sizeOf177
 v39:=zeroValue177
 t45:=underlying207
 a45:=isAgg207
 z45:=sizeOf207
 v45:=zeroValue207
 t46:=underlying208
 a46:=isAgg208
 z46:=sizeOf208
 v46:=zeroValue208
 t50:=underlying103
 a50:=isAgg103
 z50:=sizeOf103
 v50:=zeroValue103
 t53:=underlying157
 a53:=isAgg157
 z53:=sizeOf157
 v53:=zeroValue157
 t55:=underlying162
 a55:=isAgg162
 z55:=sizeOf162
 v55:=zeroValue162
 t66:=underlying250
 a66:=isAgg250
 z66:=sizeOf250
 v66:=zeroValue250
 t70:=underlying87
 a70:=isAgg87
 z70:=sizeOf87
 v70:=zeroValue87
 t76:=underlying292
 a76:=isAgg292
 z76:=sizeOf292
 v76:=zeroValue292
 t77:=underlying130
 a77:=isAgg130
 z77:=sizeOf130
 v77:=zeroValue130
def aB{K:Type}(f:Nat->K)(z:K)(n x:Nat):List K:=(List.range n).map fun y=>if y<x then f y else z
section
variable {K:Type}{f:Nat->K}{z:K}{n:Nat}
theorem GQ(x:Nat):(aB f z n x).length=n:=by simp[aB]
theorem SE:aB f z n 0=List.replicate n z:=by
 unfold aB;rw[vB];simp
theorem SF:aB f z n n=(List.range n).map f:=by
 unfold aB;refine zZ fun y hy=>z8 (zY.1 hy)
theorem SG{x:Nat}(h:x<n):(aB f z n x).set x (f x)=aB f z n (x+1):=by
 apply yy (by rw[vG,GQ,GQ]);intro i h1 h2;rw[GQ]at h2;rw[List.getElem_set];have e1:∀y (h:i< (aB f z n y).length),(aB f z n y)[i]=if i<y then f i else z:=fun y h=>by simp[aB]
 rw[e1,e1];by_cases e:x=i
 subst e;rw[z8 rfl,z8 (by omega)]
 .rw[z6 e];by_cases h3:i<x
  rw[z8 h3,z8 (by omega)];rw[z6 h3,z6 (by omega)]
end
structure eB(A:List LB)(l:List Qd)(cl:List Int):Prop where
 cn:cl.length=A.length
 few:A.length<=4096
 ln:l.length<=1048576
 nd:A.Nodup
 mem:∀s∈ZR l,s∈A
 cs:∀c∈cl,0<=c/\c<10000
theorem SH{A:List LB}{l:List Qd}{cl:List Int}(hl:l.length<=1048576)(x:Nat):(YQ A l cl x).length<=1048576:=by
 unfold YQ UC;rw[yE,zj,<-S9];exact zK (A3 ..) hl
theorem Zkx{l:List Nat}{k x v:Nat}(hk:k=x):(l.map Yx).set k [.int .i64 (v:Int)]=(l.set x v).map Yx:=by
 subst hk;rw[xZ];rfl
theorem ZgA{sg:List (List Qd)}{x k:Nat}{s:List Qd}{rows:List (List SV)}{n:Nat}(hk:k=x)(hr:rows.take n=s.map Zd):((dJ sg).modify k fun row=>row.set 0 (.uC 16 (rows.take n)))=dJ (sg.set x s):=ZiT hk hr
theorem ZeG(A:List LB)(l z:List Qd)(lim:Option Nat)(cl:List Int)(aC:eB A l cl)(hz:(l++z).length<=1152921504606846976):
 vW prog uv 63 6 [.ptr (.loc 0) 0 0 0, .sl (.loc 4) 0 1 A.length none] [(3, .deep false 1 (j6 (qx A l)))] [(0,GO l.length lim A.length),(1, .rows 16 ((l++z).map Zd)),(2, .mp (kz (X0 0 A A.length))),(4, .rows 1 (cl.map Z8))]
 (fun r O nx=>r= .sl (.loc 6) 0 1 A.length none/\O=[(3, .deep false 1 (j6 (qx A l))),(6, .rows 1 ((YL A l cl).map Z8))]/\nx=7):=by
 have gh:=aC.cn;have s4:=aC.few;have Qo:∀x,x<A.length->_:=fun x hx=>Zey A l z lim cl x hx aC.cn aC.few aC.ln aC.nd aC.mem aC.cs hz;refine vW.enter Z3 call63 func63 rfl 79 rfl rfl [.tmp 4] rfl ?_;intro w0 F η0 h0;conv=>whnf
 repeat'(first|refine ud.mk (Ux 24 rfl (by omega) (by omega) (by omega) (by omega)) ?_)<;>conv=>whnf
 rw[Int.toNat_natCast];refine uZ.loop (uZ.cg 7 (dJ (List.replicate A.length [])) rfl (ZbL _)) ?_;rw[show List.replicate A.length [SV.int .i64 0]=(List.replicate A.length 0).map Yx by rw[x7];rfl,<-SE (f:=YQ A l cl),<-SE (f:=fun y=>y)];refine ua.j5 Z3 [0,3,5,6,19] [6,8] (X:=Nat) (fun x=>x<=A.length) (fun x=>[(20, .int .i64 (x:Int))]) (fun x=>[(3, .deep false 1 (j6 (qx A l))),(7, .deep false 1 (dJ (aB (YQ A l cl) [] A.length x))),(9, .rows 1 ((aB (fun y=>y) 0 A.length x).map Yx))]) 10 (fun x=>A.length-x) 0 (by omega) ?_;conv=>whnf
 refine⟨by exact vY.cA h0,?_⟩;intro x hx;conv=>whnf
 by_cases hxl:x<A.length
 .have hs:=Qo x hxl
  have gO:∀{m:Nat},m=x->((aB (fun y=>y) 0 A.length x).map Yx)[m]?=some (Yx 0):=fun e=>by
   subst e;rw[z7,z1 (by rw[GQ];exact hxl)];simp[aB]
  repeat'(first|(show uK _ _ _ _ _ _ _;first|refine Zs 6 ZiU ?_)|refine qW.mk (fun _ _=>?_)|refine AD ?_|refine w6.mk ?_ ?_|refine IW ?_ ?_<;>intro h<;>try omega)<;>conv=>whnf
  all_goals
   refine CALL.aA [0,1,2,3,4,5] (hs) ?_;rintro r O nx ⟨rfl,rfl,rfl⟩;conv=>whnf
   repeat'(first|refine wZ.at (ZiS (by rw[GQ];exact hxl) (by omega)) ?_|refine ud.mk (show(YQ A l cl x).length<=(Xq _ _).length by rw[ZO _ (Za _),zj];exact zn _) ?_|refine GET.at (gO (by omega)) ?_|refine AD ?_|refine AU ?_)<;>conv=>whnf
  all_goals
   rw[ZgA (x:=x) (s:=YQ A l cl x) (by omega) (by rw[ZO _ (Za _),zo (by simp)]),SG hxl,Zkx (x:=x) (by omega),SG (f:=fun y=>y) hxl];refine⟨x+1,by omega,by omega,?_⟩;conv=>whnf
   exact vY.kA h0 [6,7,8,9]
 .have mm:x=A.length:=by omega
  subst mm;rw[SF,SF,List.map_id'];have iq:(List.range A.length).map (YQ A l cl)=lR A l cl:=by unfold lR;rw[gh]
  rw[iq];repeat'(first|refine IW ?_ ?_<;>intro h<;>try omega)<;>conv=>whnf
  refine CALL.GJ (ρ:=_) Zle call105 (g:=103) call103 rfl rfl (cf:=Vw A l cl) (l:=List.range A.length) (n:=A.length) (i:=9) (yw).symm (by rfl) (fun x hx=>zY.1 hx) (by rw[yw];omega) (W6 A l cl) (fun a b ha hb=>?_) (fun l' hp hs=>?_);exact SC A l cl rfl (by rw[gh];rfl) (by rw[gh];rfl) rfl rfl (by omega) (fun x=>zK (SH aC.ln x) (by omega)) a b (by omega) (by omega);have jB:l'.length=A.length:=by rw[hp.length_eq,yw]
  have Kh:∀x∈l',x<A.length:=fun x hx=>zY.1 (hp.mem_iff.1 hx);have hnd:l'.Nodup:=hp.symm.nodup vg;have hpre:=W6 A l cl;obtain⟨c,hc⟩:∃c,c=Vw A l cl:=⟨_,rfl⟩;have hstep:YL A l cl=jd c l' A.length l'.length:=by rw[Zgy hp,hc];unfold YL;rw[gh]
  conv=>whnf
  repeat'(first|refine ud.mk (Ux 8 rfl (by omega) (by omega) (by omega) (by omega)) ?_)<;>conv=>whnf
  rw[Int.toNat_natCast,show List.replicate A.length [SV.int .i64 0]=(List.replicate A.length 0).map Z8 by rw[x7];rfl,<-ZeB (c:=c) (o:=l')];refine ua.j5 Z3 [6,8,9,42,43] [6,8] (X:=Nat) (fun i=>i<=l'.length) (fun i=>[(44, .int .i64 (i:Int))]) (fun i=>[(3, .deep false 1 (j6 (qx A l))),(7, .deep false 1 (dJ (lR A l cl))),(9, .rows 1 (l'.map Yx)),(10, .rows 1 ((jd c l' A.length i).map Z8))]) 11 (fun i=>l'.length-i) 0 (by omega) ?_;conv=>whnf
  refine⟨by exact vY.cA h0,?_⟩;intro i hi;conv=>whnf
  by_cases hil:i<l'.length
  .have GR:=Kh _ (zq hil);have gO:∀{k m:Nat} (h:k<l'.length),m=k->(l'.map Yx)[m]?=some (Yx l'[k]):=fun h e=>by subst e;rw[z7,z1 h];rfl
   obtain⟨v0,kY⟩:∃v0,∀{m:Nat},m=l'[i]->((jd c l' A.length i).map Z8)[m]?=some (Z8 v0):=⟨(jd c l' A.length i)[l'[i]]'(by rw[W8];exact GR),fun e=>by
    subst e;rw[z7,z1 (by rw[W8];exact GR)];rfl⟩
   rcases i with _|j
   .have hr:=SD (c:=c) hnd hil GR (v:=0) (by rw[ZbM (by rw[hc];exact hpre) (by rw[hc];exact hs)];rfl);repeat'(first|refine GET.at (gO hil (by omega)) ?_|refine GET.at (kY (by omega)) ?_|refine AU ?_|refine IW ?_ ?_<;>intro h<;>try omega)<;>conv=>whnf
    all_goals first|(exfalso;omega)|skip
    rw[Vu (x:=l'[0]) (by omega)];refine⟨1,by omega,by omega,?_⟩;rw[<-hr];conv=>whnf
    exact vY.kA h0 [6,7,8,9,10]
   .have hj:j<l'.length:=by omega
    have hjn:=Kh _ (zq hj);have hne:l'[j]≠l'[j+1]:=fun e=>by have:=(yZ hnd).1 e;omega
    have pH:=ZeC (c:=c) (by rw[hc];exact hpre) (by rw[hc];exact hs) hil;have qo:=fun(v:Int) (hv:v=(w8 c l' l'[j+1]:Int))=>SD (c:=c) hnd hil GR hv;have hgt:=Zgz (c:=c) (n:=A.length) (i:=j+1) (Nat.lt_succ_self j) hj hjn
    have gS:∀{m:Nat},m=l'[j]->(((jd c l' A.length (j+1)).set l'[j+1] ((j+1:Nat):Int)).map Z8)[m]?=some (Z8 (w8 c l' l'[j]:Int)):=fun e=>by
     subst e;rw[z7,List.getElem?_set_ne (yO hne),hgt];rfl
    have gX:∀{m:Nat},m=l'[j+1]->(((jd c l' A.length (j+1)).set l'[j+1] ((j+1:Nat):Int)).map Z8)[m]?=some (Z8 ((j+1:Nat):Int)):=fun e=>by
     subst e;rw[z7,List.getElem?_set_self (by rw[W8];exact GR)];rfl
    repeat'(first|refine GET.at (gO hil (by omega)) ?_|refine GET.at (kY (by omega)) ?_|refine GET.at (gO hj (by rw[Z4 (by omega) (by omega)];omega)) ?_|refine CALL.quiet (SC A l cl rfl (by rw[gh];rfl) (by rw[gh];rfl) rfl rfl (by omega) (fun x=>zK (SH aC.ln x) (by omega)) l'[j] l'[j+1] (by omega) (by omega)) ?_|rw[Vu (x:=l'[j+1]) (by omega)];refine GET.at (gS (by omega)) ?_|refine GET.at (gX (by omega)) ?_|refine AU ?_|refine IW ?_ ?_<;>intro h<;>try omega)<;>conv=>whnf
    all_goals first|(exfalso;omega)|skip
    .have hr:=qo (w8 c l' l'[j]:Int) (by rw[pH,z8 (by rw[hc];assumption)]);rw[Vu (x:=l'[j+1]) (by omega),List.set_set,hr];refine⟨j+2,by omega,by omega,?_⟩;conv=>whnf
     exact vY.kA h0 [6,7,8,9,10]
    .have hr:=qo ((j+1:Nat):Int) (by rw[pH,z6 (by rw[hc];assumption)]);rw[Vu (x:=l'[j+1]) (by omega),hr];refine⟨j+2,by omega,by omega,?_⟩;conv=>whnf
     exact vY.kA h0 [6,7,8,9,10]
  .have hie:i=l'.length:=by omega
   subst hie;repeat'(first|refine IW ?_ ?_<;>intro h<;>try omega)<;>conv=>whnf
   rw[<-hstep];exact u9.aA h0 [10] (.sl (.loc 6) 0 1 A.length none) [(3, .deep false 1 (j6 (qx A l))),(6, .rows 1 ((YL A l cl).map Z8))] ⟨rfl,rfl,rfl⟩
end Go.Proofs.YtlcbipfmodcedaaGreatDoor
