/- Part 39: Can11. Conditions: as each part says. -/
import Derived.Test.YtlcbipfmodcedaaGreatDoorCiso37
import Derived.Test.YtlcbipfmodcedaaGreatDoorCiso38
set_option linter.unusedVariables false
set_option linter.unusedSimpArgs false
set_option maxRecDepth 20000
set_option maxHeartbeats 8000000
namespace Go.Proofs.YtlcbipfmodcedaaGreatDoor
open Go.Sx Go.Our Go.Lib
open _root_.Go.Proofs.Tryz
def ZgP:uJ:=(ZI [(0,2),(1,1),(2,2),(3,2),(4,1)])
def ZgQ:uJ:=(ZI [(2,1),(0,2),(1,2),(3,3),(4,3),(5,1)])
def ZgR:uJ:=(.take 2 1 (.take 1 2 (.fork 0 3 3 0 (ZI [(3,0),(4,0),(5,1)]) (ZI [(0,2),(4,0),(5,1)]))))
theorem Z9g(cl:List Int)(hl:cl.length<=1048576):vW prog uv 73 1 [.sl (.loc 0) 0 1 cl.length none] [] [(0, .rows 1 (cl.map Z8))]
 (fun r O nx=>r= .sl (.loc 1) 0 1 cl.length none/\O=[(1, .rows 1 (cl.map Z8))]/\nx=2):=by
 refine vW.enter Z3 call73 func73 rfl 8 rfl rfl [.tmp 2] rfl ?_;intro w0 F η0 h0;conv=>whnf
 repeat'(first|refine ud.mk (Ye 8 rfl rfl (by simp) (by simp) (by omega)) ?_|((with_reducible refine sx.mk (fun h=>?_) ?_)<;>try omega))<;>conv=>whnf
 .have:cl=[]:=zO.1 h;subst this;refine u9.nil 1 ?_;exact u9.aA h0 [1] (.sl (.loc 1) 0 1 0 none) [(1, .rows 1 (([]:List Int).map Z8))] ⟨rfl,rfl,rfl⟩
 .rw[zw,show List.take 0 ([]:List (List SV))++List.take cl.length (List.drop 0 (cl.map Z8))=cl.map Z8 by simp[zo]];exact u9.aA h0 [2] (.sl (.loc 1) 0 1 cl.length none) [(1, .rows 1 (cl.map Z8))] ⟨rfl,rfl,rfl⟩
def s8:Code->Option (List Nat×Code×Code)
 | .seq a b=>match s8 a with|some x=>some x|none=>s8 b
 | .cond _ a b=>match s8 a with|some x=>some x|none=>s8 b
 | .block _ b=>s8 b
 | .loop b=>s8 b
 | .scope b=>s8 b
 | .rangeFunc _ ps eD body=>some (ps.toList,eD,body)
 |_=>none
noncomputable def iS:mH:=match f13.body with
 |some c=>match s8 c with
  |some (ps,a,b)=>⟨f13.ntmps,ps,a,b⟩
  |none=>⟨0,[], .skip, .skip⟩
 |none=>⟨0,[], .skip, .skip⟩
abbrev cF:=Option (List Qd×List Int)
abbrev bC(b:cF)(k:Nat):SV:=match b with|none=> .val (.slice none 0 0)|some p=> .sl (.loc k) 0 16 p.1.length none
abbrev cC(b:cF)(k:Nat):SV:=match b with|none=> .val (.slice none 0 0)|some p=> .sl (.loc k) 0 1 p.2.length none
abbrev bR(b:cF):List (List SV):=match b with|none=>[]|some p=>p.1.map Zd
abbrev cR(b:cF):List (List SV):=match b with|none=>[]|some p=>p.2.map Z8
instance {b:cF}:Pl (bR b):=⟨by cases b with|none=>rfl|some p=>exact Za _⟩
instance {b:cF}:Pl (cR b):=⟨by cases b with|none=>rfl|some p=>exact Uv _⟩
def Ao:SV:= .fn (.func 71) [] [.ptr (.loc 6) 0 0 0, .ptr (.loc 7) 0 0 0, .ptr (.loc 8) 0 0 0, .ptr (.loc 9) 0 0 0, .ptr (.loc 10) 0 0 0]
def QE(B:Nat):Fr:=[(30, .fn (.func 70) [] [.ptr (.loc 6) 0 0 0, .ptr (.loc 7) 0 0 0, .ptr (.loc 10) 0 0 0]),(1, .int .i64 (B:Int)),(7, .ptr (.loc 11) 0 0 0),(9, .ptr (.loc 12) 0 0 0),(10, .ptr (.loc 14) 0 0 0),(11, .ptr (.loc 15) 0 0 0)]
noncomputable abbrev aX (A:List LB)(l:List Qd)(B n:Nat)(b:cF)(p q:Nat):u0:=[(3, .deep false 1 (j6 (qx A l))),(12, .box [.int .i64 (n:Int)]),(13, .lp .ready iS (QE B)),(14, .box [bC b p]),(15, .box [cC b q]),(p, .rows 16 (bR b)),(q, .rows 1 (cR b))]
abbrev wkS(A:List LB)(l z:List Qd)(lim:Option Nat)(B:Nat):u0:=[(0,GO l.length lim A.length),(1, .rows 16 ((l++z).map Zd)),(2, .mp (kz (X0 0 A A.length))),(6, .box [.ptr (.loc 12) 0 0 0]),(7, .box [.int .i64 (B:Int)]),(8, .box [.yf (.loc 13)]),(9, .box [Ao]),(10, .box [.ptr (.loc 0) 0 0 0]),(11, .box [.ptr (.loc 0) 0 0 0])]
def F0(A:List LB)(l:List Qd)(B:Nat)(s:Nat×List (List Int)):SV->u0->Nat->Prop:=fun r O nx=>
 (∀cl∈s.2,qz A cl)/\r= .bool (decide (s.1<=B))/\O=aX A l B s.1 (Js (ZH A l) s.2) 18 19/\nx=20
theorem uZ.best{M:Mx}{A:List LB}{l:List Qd}{B:Nat}{x:SV}(b:cF){h4:Hp}:uZ M [(4,h4),(3, .deep false 1 (j6 (qx A l))),(12, .box [x]),(13, .lp .ready iS (QE B)),(14, .box [bC b 16]),(15, .box [cC b 17]),(16, .rows 16 (bR b)),(17, .rows 1 (cR b))] 18
 [(19, .rows 1 (cR b)),(18, .rows 16 (bR b)),(4,h4),(3, .deep false 1 (j6 (qx A l))),(12, .box [x]),(13, .lp .ready iS (QE B)),(14, .box [bC b 18]),(15, .box [cC b 19])] 20:=by
 cases b with
 |none=>exact uZ.trans (uZ.nV 16 rfl) (uZ.nV 17 rfl)
 |some p=>exact uZ.trans (uZ.fresh 16 14 rfl rfl (by decide)) (uZ.fresh 17 15 rfl rfl (by decide))
structure F1(A:List LB)(cl:List Int):Prop where
 cn:cl.length=A.length
 cs:∀c∈cl,0<=c/\c< (cl.length:Int)
set_option maxHeartbeats 16000000 in
theorem ZeU(A:List LB)(l z:List Qd)(lim:Option Nat)(B:Nat)(hB:B<=65536)(s4:A.length<=4096)(hl:l.length<=1048576)(hnd:A.Nodup)(hmem:∀s∈ZR l,s∈A)(hz:(l++z).length<=1152921504606846976):
 ∀(k n:Nat) (Ls:List (List Int)) (cl:List Int),n<=B->B<n+k->F1 A cl->(∀c∈Ls,qz A c)->(A.length=0->Ls=[])->
 vW prog uv 71 18 [.sl (.loc 4) 0 1 A.length none, .ptr (.loc 6) 0 0 0, .ptr (.loc 7) 0 0 0, .ptr (.loc 8) 0 0 0, .ptr (.loc 9) 0 0 0, .ptr (.loc 10) 0 0 0]
  ((4, .rows 1 (cl.map Z8))::aX A l B n (Js (ZH A l) Ls) 16 17) (wkS A l z lim B) (F0 A l B (JS A l B k cl (n,Ls))):=by
 intro k
 induction k with
 |zero=>intro n Ls cl h1 h2;omega
 |succ k ih=>
  intro n Ls cl hn hk hc ED hA0;have gh:=hc.cn;have Tf:=Z9e cl (by omega);rw[gh]at Tf;obtain⟨b,hb⟩:∃b,b=Js (ZH A l) Ls:=⟨_,rfl⟩;have hw:IntKind.i64.wrap ((n:Int)+1)=((n+1:Nat):Int):=by rw[Z4 (by omega) (by omega)];omega
  rw[<-hb];refine vW.enter Z3 call71 func71 rfl 62 rfl rfl [.tmp 7] rfl ?_;intro w0 F η0 h0;conv=>whnf
  skip
  refine uZ.drawn (uZ.best b) ?_;repeat'(first|(show uK _ _ _ _ _ _ _;first|refine Zs 2 ZgP ?_|refine Zs 17 ZgQ ?_)|refine IW ?_ ?_<;>intro h<;>try omega)<;>conv=>whnf
  .have ho:B<n+1:=by omega
   rw[Ew ho,hw];have hf:∀b,b=Js (ZH A l) Ls->F0 A l B (n+1,Ls) (.bool false) (aX A l B (n+1) b 18 19) 20:=fun b hb=>⟨ED,zf SV.bool (yp (by show ¬n+1<=B;omega)).symm,by rw[hb],rfl⟩
   replace hf:=hf b hb
   clear hb;cases b with
   |none=>exact u9.aA h0 [18,19] (.bool false) (aX A l B (n+1) none 18 19) hf
   |some p=>exact u9.aA h0 [18,19] (.bool false) (aX A l B (n+1) (some p) 18 19) hf
  have ho:¬B<n+1:=by omega
  rw[hw];refine CALL.aA [4] (Tf) ?_;rintro r O nx (⟨hs,rfl,rfl,rfl⟩|⟨c,hs,h1,rfl,rfl,rfl⟩)
  .rw[UD ho hs];have hlf:qz A cl:=⟨gh,hc.cs,hs⟩;have hFo:=ZbY A l z lim cl gh s4 hl hnd hmem (fun c hc1=>by have:=hc.cs c hc1;omega) hz;have hf:∀b',b'=Xv (ZH A l) b cl->F0 A l B (n+1,Ls++ [cl]) (.bool true) (aX A l B (n+1) b' 18 19) 20:=fun b' hb'=>⟨fun c Dk=>(zX.1 Dk).elim (ED c) (fun h=>by rw[zJ.1 h];exact hlf),zf SV.bool (yA (by show n+1<=B;omega)).symm,by rw[hb',hb,SZ],rfl⟩;conv=>whnf
   repeat'(first|refine AU ?_)<;>conv=>whnf
   refine fO.of Z3 rfl rfl rfl ?_;intro η2 RS h2;conv=>whnf
   skip
   refine CALL.aA [0,1,2,3,4,5] (hFo) ?_;rintro r O nx ⟨rfl,rfl,rfl⟩;have hfl:=U6 A l cl;have hx:aX A l B (n+1) (some (ZH A l cl,cl)) 18 19=[(3, .deep false 1 (j6 (qx A l))),(12, .box [.int .i64 ((n+1:Nat):Int)]),(13, .lp .ready iS (QE B)),(14, .box [.sl (.loc 18) 0 16 l.length none]),(15, .box [.sl (.loc 19) 0 1 A.length none]),(18, .rows 16 ((ZH A l cl).map Zd)),(19, .rows 1 (cl.map Z8))]:=by simp only[aX,bC,cC,bR,cR,hfl,gh]
   cases b with
   |none=>
    replace hf:=hf _ rfl
    rw[show Xv (ZH A l) none cl=some (ZH A l cl,cl)from rfl,hx]at hf;conv=>whnf
    repeat'(first|refine AU ?_)<;>conv=>whnf
    exact u9.aA h0 [20,4] (.bool true) _ hf
   |some p=>
    have F2:Ls≠ []:=fun e=>by rw[e,T0]at hb;cases hb
    have F3:A.length≠0:=fun e=>F2 (hA0 e);obtain⟨c',dU,rI⟩:=EA (ZH A l) F2;rw[<-hb]at rI;injection rI with rI;subst rI;have fL:=(ED _ dU).cn;have z9D:(ZH A l c',c').snd.length=A.length:=fL;have z9E:=U6 A l c';have Tg:=Ss (ZH A l cl) (ZH A l c') none none (by omega) (by omega);rw[hfl]at Tg;conv=>whnf
    repeat'(first|refine AU ?_|((with_reducible refine sx.mk (fun h=>?_) ?_)<;>try omega))<;>conv=>whnf
    refine CALL.aA [20,18] (Tg) ?_;rintro r O nx ⟨rfl,rfl,rfl⟩;conv=>whnf
    repeat'(first|refine AU ?_|refine IW ?_ ?_<;>intro h<;>try omega)<;>conv=>whnf
    .replace hf:=hf _ rfl
     rw[show Xv (ZH A l) (some (ZH A l c',c')) cl=some (ZH A l cl,cl)by unfold Xv;exact z8 (by omega),hx]at hf;exact u9.aA h0 [20,4] (.bool true) _ hf
    .replace hf:=hf _ rfl
     rw[show Xv (ZH A l) (some (ZH A l c',c')) cl=some (ZH A l c',c')by unfold Xv;exact z6 (by dsimp only;omega)]at hf;exact u9.aA h0 [18,19] (.bool true) _ hf
  .rw[Ey ho hs];have fL:=ZgH hs;have F3:A.length≠0:=by omega
   have jB:=T3 cl (c:Int);have cO:∀t∈wu cl (c:Int),t<cl.length:=fun t ht=>(gI.1 ht).1;have hpv:∀t∈wu cl (c:Int),cl.getD t 0=(c:Int):=fun t ht=>(gI.1 ht).2;have HX:=ZbT cl (c:Int);have oR:=Zj1 cl (c:Int)
   have hch:∀x,∀v∈YI cl (c:Int) x,0<=v/\v<10000:=fun x v hv=>by
    unfold YI at hv;obtain⟨y,hy,rfl⟩:=zM.1 hv;have Kf:=zY.1 hy;have h9:=hc.cs (cl.getD y 0) (by rw[zi,z1 Kf];exact zq Kf);split<;>omega
   have mA:=Z9g cl (by omega);rw[gh]at mA;obtain⟨xs,hxs⟩:∃xs,xs=wu cl (c:Int):=⟨_,rfl⟩;rw[<-hxs]at jB cO hpv HX oR h1⊢;conv=>whnf
   repeat'(first|((with_reducible refine sx.mk (fun h=>?_) ?_)<;>try omega))<;>conv=>whnf
   refine ua.j5 Z3 [0,4,5,8,31,32] [] (X:=Nat×Nat×List (List Int)) (fun x=>x.1<=xs.length/\x.2.1<=B/\n+1<=x.2.1/\(∀c∈x.2.2,qz A c)/\Wg A l B k cl (c:Int) xs (n+1,Ls)=Wg A l B k cl (c:Int) (xs.drop x.1) x.2)
    (fun x=>[(33, .int .i64 (x.1:Int))]) (fun x=>[(19, .rows 1 (cR (Js (ZH A l) x.2.2))),(18, .rows 16 (bR (Js (ZH A l) x.2.2))),(4, .rows 1 (cl.map Z8)),(3, .deep false 1 (j6 (qx A l))),(12, .box [.int .i64 (x.2.1:Int)]),(13, .lp .ready iS (QE B)),(14, .box [bC (Js (ZH A l) x.2.2) 18]),(15, .box [cC (Js (ZH A l) x.2.2) 19]),(20, .rows 1 (xs.map Yx))]) 21 (fun x=>xs.length-x.1) (0,n+1,Ls) ⟨by simp,by dsimp only;omega,by dsimp only;omega,ED,rfl⟩ ?_
   conv=>whnf
   refine⟨?_,?_⟩
   .dsimp only;rw[<-hb];clear hb;cases b with
    |none=>exact vY.kA h0 [18,19,20]
    |some p=>exact vY.kA h0 [18,19,20]
   rintro⟨i,n1,L1⟩ ⟨hi,cW,hn2,lS,dr⟩;dsimp only at hi cW hn2 lS dr⊢;rw[dr];clear dr hb;obtain⟨b1,EE⟩:∃b1,b1=Js (ZH A l) L1:=⟨_,rfl⟩;rw[<-EE];conv=>whnf
   by_cases bU:i<xs.length
   .obtain⟨x,hx⟩:∃x,x=xs[i]:=⟨_,rfl⟩;have gX:∀{m:Nat},m=i->(xs.map Yx)[m]?=some (Yx x):=fun e=>by subst e;rw[z7,z1 bU,<-hx];rfl
    have dr:=ZeL (A:=A) (l:=l) (B:=B) (k:=k) (cl:=cl) (c:=(c:Int)) (s:=(n1,L1)) bU (show ¬B<n1 by omega);rw[<-hx]at dr;obtain⟨bx,hbx⟩:∃bx:cF,bx=b1:=⟨_,rfl⟩;cases b1
    all_goals
     conv=>whnf
     repeat'(first|refine GET.at (gX (by omega)) ?_|refine AU ?_|refine IW ?_ ?_<;>intro h<;>try omega)<;>conv=>whnf
     refine CALL.aA [4] (mA) ?_;rintro r O nx ⟨rfl,rfl,rfl⟩;conv=>whnf
     skip
     refine ua.j5 Z3 [0,4,5,8,10,11,31,32,33,39,40] [] (X:=Nat) (fun y=>y<=xs.length) (fun y=>[(41, .int .i64 (y:Int))]) (fun y=>[(19, .rows 1 (cR bx)),(18, .rows 16 (bR bx)),(4, .rows 1 (cl.map Z8)),(3, .deep false 1 (j6 (qx A l))),(12, .box [.int .i64 (n1:Int)]),(13, .lp .ready iS (QE B)),(14, .box [bC bx 18]),(15, .box [cC bx 19]),(20, .rows 1 (xs.map Yx)),(21, .rows 1 ((gm cl x (xs.take y)).map Z8))]) 22 (fun y=>xs.length-y) 0 (by omega) ?_;subst hbx;conv=>whnf
     refine⟨by rw[show xs.take 0=[]from rfl,ZgF];exact vY.kA h0 [18,19,20,21],?_⟩;intro y hy;conv=>whnf
     by_cases Ap:y<xs.length
     .obtain⟨t,ht⟩:∃t,t=xs[y]:=⟨_,rfl⟩;have Hh:t∈xs:=by rw[ht];exact zq Ap
      have pI:=cO t Hh;have Ti:=hpv t Hh;have gT:∀{m:Nat},m=y->(xs.map Yx)[m]?=some (Yx t):=fun e=>by subst e;rw[z7,z1 Ap,<-ht];rfl
      have Tj:t∉xs.take y:=fun hm=>by
       obtain⟨m,KA,he⟩:=yg.1 hm;rw[vv]at he;rw[zA]at KA;exact absurd ((yZ HX).1 (he.trans ht)) (by omega)
      have hS:xs.take (y+1)=xs.take y++ [t]:=by rw[zB Ap,<-ht]
      generalize xs.take y=T at Tj hS⊢;have gN:∀{m:Nat},m=t->((gm cl x T).map Z8)[m]?=some (Z8 (cl.getD t 0)):=fun e=>by subst e;rw[z7,Zj0 Tj pI];rfl
      rw[Ti]at gN;repeat'(first|refine GET.at (gT (by omega)) ?_|refine GET.at (gN (by omega)) ?_|refine AU ?_|refine IW ?_ ?_<;>intro h<;>try omega)<;>conv=>whnf
      .have hst:=ZiZ (cl:=cl) (x:=x) (T:=T) (show t≠x by omega) pI;rw[Ti]at hst;refine⟨y+1,by omega,by omega,?_⟩;rw[Vu (x:=t) (by omega),show IntKind.i64.wrap ((c:Int)+1)=(c:Int)+1 from Z4 (by omega) (by omega),hst,<-hS];conv=>whnf
       exact vY.kA h0 [18,19,20,21]
      .have hte:t=x:=by omega
       subst hte;refine⟨y+1,by omega,by omega,?_⟩;rw[<-ZgG cl t T,<-hS];conv=>whnf
       exact vY.kA h0 [18,19,20,21]
     .have A6:y=xs.length:=by omega
      subst A6;rw[yb,oR x];have hRf:=SQ A l z lim (YI cl (c:Int) x) ⟨by rw[Ev,gh],s4,hl,hnd,hmem,fun v hv=>hch x v hv⟩ hz;repeat'(first|(show uK _ _ _ _ _ _ _;first|refine Zs 17 ZgR ?_)|refine qW.mk (fun _ _=>?_)|refine w6.mk ?_ ?_|refine IW ?_ ?_<;>intro h<;>try omega)<;>conv=>whnf
      all_goals
       refine CALL.aA [0,1,2,3,21,5] (hRf) ?_;rintro r O nx ⟨F,hF,rfl,rfl,rfl⟩;obtain⟨au,iT⟩:=hF.ok;rw[Ev]at au iT;have hih:=ih n1 L1 F cW (by omega) ⟨by rw[au,gh],fun v hv=>by rw[au];exact iT v hv⟩ lS (fun e=>(F3 e).elim);rw[<-EE]at hih;rw[GV hF]at dr;obtain⟨s2,hs2⟩:∃s2,s2=JS A l B k F (n1,L1):=⟨_,rfl⟩;have hge:=Ak (A:=A) (l:=l) (B:=B) k F (n1,L1);rw[<-hs2]at hih dr hge;rw[dr];dsimp only at hge;conv=>whnf
       repeat'(first|refine AD ?_)<;>conv=>whnf
       refine CALL.aA [0,1,2,3,22,5,6,7,8,9,10,11,12,13,14,15,18,19] (hih) ?_;rintro r O nx ⟨EF,rfl,rfl,rfl⟩;obtain⟨b2,eF⟩:∃b2,b2=Js (ZH A l) s2.2:=⟨_,rfl⟩;rw[<-eF];conv=>whnf
       repeat'(first|refine IW ?_ ?_<;>intro h<;>try omega)<;>conv=>whnf
       .have aU:B<s2.1:=by omega
        rw[JP aU];have hf:F0 A l B s2 (.bool false) (aX A l B s2.1 b2 18 19) 20:=⟨EF,zf SV.bool (yp (by omega)).symm,by rw[eF],rfl⟩;clear eF;cases b2 with
        |none=>exact u9.aA h0 [23,24] (.bool false) (aX A l B s2.1 none 18 19) hf
        |some p=>exact u9.aA h0 [23,24] (.bool false) (aX A l B s2.1 (some p) 18 19) hf
       .refine⟨(i+1,s2),⟨by dsimp only;omega,by dsimp only;omega,by dsimp only;omega,EF,rfl⟩,by dsimp only;omega,?_⟩;dsimp only;rw[<-eF];clear eF;cases b2 with
        |none=>
         conv=>whnf
         exact vY.kA h0 [23,24,20]
        |some p=>
         conv=>whnf
         exact vY.kA h0 [23,24,20]
   .have hie:i=xs.length:=by omega
    subst hie;rw[List.drop_length];have hf:F0 A l B (n1,L1) (.bool true) (aX A l B n1 b1 18 19) 20:=⟨lS,zf SV.bool (yA cW).symm,by rw[EE],rfl⟩;clear EE;repeat'(first|refine AU ?_|((with_reducible refine sx.mk (fun h=>?_) ?_)<;>try omega)|refine IW ?_ ?_<;>intro h<;>try omega)<;>conv=>whnf
    cases b1 with
    |none=>exact u9.aA h0 [18,19] (.bool true) (aX A l B n1 none 18 19) hf
    |some p=>exact u9.aA h0 [18,19] (.bool true) (aX A l B n1 (some p) 18 19) hf
end Go.Proofs.YtlcbipfmodcedaaGreatDoor
