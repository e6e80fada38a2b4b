/- Part 37: Can8, Can9, Can10. Conditions: as each part says. -/
import Derived.Test.YtlcbipfmodcedaaGreatDoorCiso35
import Derived.Test.YtlcbipfmodcedaaGreatDoorCiso36
set_option linter.unusedVariables false
set_option linter.unusedSimpArgs false
set_option maxRecDepth 20000
set_option maxHeartbeats 8000000
namespace Go.Proofs.YtlcbipfmodcedaaGreatDoor
open Go.Sx Go.Our Go.Lib
def Eu(L:List LB):List (List SV):=L.map Z9
def SX(c:Nat)(k:Int)(L:List LB):DC:=if 0<=k/\k< (c:Int)then .v .any else .uC 1 (Eu L)
theorem SY(L:List LB):Zj (Eu L)=true:=Zt L
instance {m:List (Int×List LB)}:bQ (YG KI 1 Eu m):=⟨GU KI (h:=fun _ v=> .uC 1 (Eu v)) (fun k v=>SY v) m⟩
instance {c:Nat}{m:List (Int×List LB)}:bQ (YH KI (SX c) m):=⟨GU KI (fun k v=>by unfold SX;split;rfl;exact SY v) m⟩
end Go.Proofs.YtlcbipfmodcedaaGreatDoor
namespace Go.Proofs.YtlcbipfmodcedaaGreatDoor
open Go.Sx Go.Our Go.Lib
open _root_.Go.Proofs.Tryz
def jT(L:List Nat):List (List SV):=L.map Yx
def Uc(c:Nat)(k:Int)(L:List Nat):DC:=if 0<=k/\k< (c:Int)then .v .any else .uC 1 (jT L)
theorem T7(L:List Nat):Zj (jT L)=true:=Sk L
instance {m:List (Int×List Nat)}:bQ (YG KI 1 jT m):=⟨GU KI (h:=fun _ v=> .uC 1 (jT v)) (fun k v=>T7 v) m⟩
instance {c:Nat}{m:List (Int×List Nat)}:bQ (YH KI (Uc c) m):=⟨GU KI (fun k v=>by unfold Uc;split;rfl;exact T7 v) m⟩
theorem Zj2{a:Int}{es:Nat}{rows:List (List SV)}{L:List Nat}{m:List (Int×List Nat)}(wT:es=1)(hr:rows=jT L):jl (false,[CK.int .i64]) (jg (SV.int .i64 a)) (.uC es rows) (YG KI 1 jT m)=YG KI 1 jT (qv a L m):=by
 subst wT hr;exact ZjX KI 1 jT a L m
theorem T8{a:Int}{j:Nat}{L:List Nat}{m:List (Int×List Nat)}(h:Int->List Nat->DC)(d:DC)(hn:(m.map Prod.fst).Nodup)(hx:js a m=some (j,L)):findD (false,[CK.int .i64]) (SV.int .i64 a) 0 ((YH KI h m).modify j (jU d))=some (j,d):=by
 rw[Aj KI h d hn hx];exact(Et KI _ a m 0).trans (by rw[hx];simp)
theorem ZgK{a:Int}{j es:Nat}{rows:List (List SV)}{L L':List Nat}{m:List (Int×List Nat)}{d:DC}(hn:(m.map Prod.fst).Nodup)(hx:js a m=some (j,L))(wT:es=1)(hr:rows=jT L'):jl (false,[CK.int .i64]) (jg (SV.int .i64 a)) (.uC es rows) ((YG KI 1 jT m).modify j (jU d))=YG KI 1 jT (qv a L' m):=by
 subst wT hr;have hf:=T8 (fun _ v=> .uC 1 (jT v)) d hn hx;show jl (false,[CK.int .i64]) (SV.int .i64 a) _ _=_
 unfold jl;rw[SR,hf];exact Zie KI 1 jT d hx rfl
theorem T9{a:Int}{j:Nat}{L:List Nat}{m:List (Int×List Nat)}(h:Int->List Nat->DC)(d:DC)(hn:(m.map Prod.fst).Nodup)(hx:js a m=some (j,L)):Jn (false,[CK.int .i64]) (ZA ((YH KI h m).modify j (jU d))):=by
 rw[Aj KI h d hn hx];exact Ai KI _ _
theorem ZbU(m:List (Int×List Nat)):YG KI 1 jT m=YH KI (Uc 0) m:=by
 rw[SR];congr 1;funext k v;unfold Uc;rw[z6 (by omega)]
theorem ZbV(c:Nat)(m:List (Int×List Nat)):kF (YH KI (Uc c) m) (YH KI (Uc (c+1)) m):=by
 refine SU KI fun k v=>?_;unfold Uc;by_cases h:0<=k/\k< (c:Int)
 rw[z8 (by omega)];exact .inr rfl
 .rw[z6 h];by_cases h2:0<=k/\k< ((c+1:Nat):Int)
  rw[z8 h2];exact .inr rfl;rw[z6 h2];exact .inl rfl
theorem ZbW{c j:Nat}{L:List Nat}{m:List (Int×List Nat)}(d:DC)(hn:(m.map Prod.fst).Nodup)(hx:js (c:Int) m=some (j,L)):kF ((YH KI (Uc c) m).modify j (jU d)) (YH KI (Uc (c+1)) m):=by
 rw[Aj KI _ d hn hx];refine SU KI fun k v=>?_;unfold Uc;by_cases h:k=(c:Int)
 .subst h;rw[z8 (by omega)];exact .inr rfl
 .rw[z6 h];by_cases h2:0<=k/\k< (c:Int)
  rw[z8 (by omega)];exact .inr rfl;rw[z6 h2,z6 (by omega)];exact .inl rfl
theorem ZgL(L:List Nat)(x:Nat):List.take ((jT L).length+1) (List.take (jT L).length (jT L)++List.take 1 (List.drop 0 [[SV.int .i64 (x:Int)]]))=jT (L++ [x]):=by
 rw[yb,zo (by simp)];simp[jT,Yx]
def Zj3(cl:List Int):SV->u0->Nat->Prop:=fun r O nx=>
 (YY cl=none/\r= .val (.slice none 0 0)/\O=[]/\nx=1)\/
 (∃c,YY cl=some c/\1< (wu cl (c:Int)).length/\r= .sl (.loc 1) 0 1 (wu cl (c:Int)).length none/\O=[(1, .rows 1 ((wu cl (c:Int)).map Yx))]/\nx=2)
theorem Z9e(cl:List Int)(hl:cl.length<=4096):vW prog uv 72 1 [.sl (.loc 0) 0 1 cl.length none] [] [(0, .rows 1 (cl.map Z8))] (Zj3 cl):=by
 refine vW.enter Z3 call72 func72 rfl 38 rfl rfl [.tmp 2] rfl ?_;intro w0 F η0 h0;conv=>whnf
 skip
 refine uZ.loop (uZ.Gg 1 rfl) ?_;refine ua.j5 Z3 [0,3,8,9] [] (X:=Nat) (fun i=>i<=cl.length) (fun i=>[(10, .int .i64 (i:Int))]) (fun i=>[(1, .deep true 2 (YG KI 1 jT (qR cl i)))]) 2 (fun i=>cl.length-i) 0 (by omega) ?_;conv=>whnf
 refine⟨by exact vY.kA h0 [1],?_⟩;intro i hi;have fL:=ZkB cl i;have hml:=ZiY cl i;have bI:=ZgE cl i;have hmn:=ZeN cl i;have hall:i=cl.length->∀c,(qi c (qR cl i)).getD []=wu cl c:=fun e c=>by subst e;exact ZiX cl c
 generalize qR cl i=m at fL hml bI hmn hall⊢;conv=>whnf
 by_cases hil:i<cl.length
 .have hgd:cl.getD i 0=cl[i]:=by rw[zi,z1 hil];rfl
  rw[hgd]at bI;have gF:∀{k:Nat},k=i->(cl.map Z8)[k]?=some (Z8 cl[i]):=fun e=>by subst e;rw[z7,z1 hil];rfl
  cases hx:js cl[i] m with
  |none=>
   have Al:findD (false,[CK.int .i64]) (SV.int .i64 cl[i]) 0 (YG KI 1 jT m)=none:=(Qc KI 1 jT cl[i] m 0).trans (by rw[hx];rfl);repeat'(first|refine GET.at (gF (by omega)) ?_|refine ud.mk ⟨KI.ok _,Mw KI _ _ _⟩ ?_|refine wZ.no Al ?_|refine ud.mk ⟨rfl,by omega,zP rfl⟩ ?_|refine AU ?_|refine IW ?_ ?_<;>intro h<;>try omega)<;>conv=>whnf
   all_goals
    rw[Zj2 (L:=[i]) (by rfl) (by rfl)];refine⟨i+1,by omega,by omega,?_⟩;rw[bI,VS hx,Option.getD_none,List.nil_append];conv=>whnf
    exact vY.kA h0 [1]
  |some p=>
   obtain⟨j,L⟩:=p
   have hL:(jT L).length<=4096:=by
    have:=fL cl[i];rw[VT hx]at this;simp only[jT,zj,Option.getD_some]at*;omega
   have Am:findD (false,[CK.int .i64]) (SV.int .i64 cl[i]) 0 (YG KI 1 jT m)=some (j, .uC 1 (jT L)):=(Qc KI 1 jT cl[i] m 0).trans (by rw[hx];simp);repeat'(first|refine GET.at (gF (by omega)) ?_|refine ud.mk ⟨KI.ok _,Mw KI _ _ _⟩ ?_|refine wZ.at Am ?_|refine ud.mk (Ye 8 rfl rfl rfl (zn _) (by omega)) ?_|refine ud.mk ⟨KI.ok _,T9 (fun _ v=> .uC 1 (jT v)) _ hmn hx⟩ ?_|refine AU ?_|refine IW ?_ ?_<;>intro h<;>try omega)<;>conv=>whnf
   all_goals
    rw[ZgK (L':=L++ [i]) hmn hx (by rfl) (ZgL L _)];refine⟨i+1,by omega,by omega,?_⟩;rw[bI,VT hx,Option.getD_some];conv=>whnf
    exact vY.kA h0 [1]
 .have hie:i=cl.length:=by omega
  have GX:=hall hie;clear bI fL hml hall;subst hie;repeat'(first|refine IW ?_ ?_<;>intro h<;>try omega)<;>conv=>whnf
  rw[ZbU];refine ua.j5 Z3 [3,25] [] (X:=Nat) (fun c=>c<=cl.length/\∀d,d<c->¬1< (wu cl (d:Int)).length) (fun c=>[(26, .int .i64 (c:Int))]) (fun c=>[(1, .deep true 2 (YH KI (Uc c) m))]) 2 (fun c=>cl.length-c) 0 ⟨by omega,fun d hd=>by omega⟩ ?_;conv=>whnf
  refine⟨by exact vY.kA h0 [1],?_⟩;rintro c ⟨hc,hb⟩;have jB:=T3 cl (c:Int)
  have eF:¬1< (wu cl (c:Int)).length->∀d,d<c+1->¬1< (wu cl (d:Int)).length:=fun h d hd=>by
   rcases yD d c with h1|h1
   exact hb d h1
   .have:d=c:=by omega
    subst this;exact h
  conv=>whnf
  by_cases hcA:c<cl.length
  .have FJ:=fun h=>ZgI hcA h hb;cases hx:js (c:Int) m with
   |none=>
    have Al:findD (false,[CK.int .i64]) (SV.int .i64 (c:Int)) 0 (YH KI (Uc c) m)=none:=(Et KI (Uc c) (c:Int) m 0).trans (by rw[hx];rfl);repeat'(first|refine ud.mk ⟨KI.ok _,Ai KI _ _⟩ ?_|refine wZ.no Al ?_|refine IW ?_ ?_<;>intro h<;>try omega)<;>conv=>whnf
    have he:wu cl (c:Int)=[]:=by rw[<-GX,VS hx];rfl
    refine⟨c+1,⟨by omega,eF (by rw[he];simp)⟩,by omega,?_⟩;conv=>whnf
    refine(uZ.goes (uZ.cD 1 rfl (ZbV c m))).trans ?_;exact vY.kA h0 [1]
   |some p=>
    obtain⟨j,L⟩:=p;have Am:findD (false,[CK.int .i64]) (SV.int .i64 (c:Int)) 0 (YH KI (Uc c) m)=some (j, .uC 1 (jT L)):=(Et KI (Uc c) (c:Int) m 0).trans (by rw[hx];simp[Uc]);have hfT:=fun d=>T8 (Uc c) d hmn hx;have iP:wu cl (c:Int)=L:=by rw[<-GX,VT hx];rfl
    rw[iP]at FJ eF jB;have hlv:(jT L).length=L.length:=by simp[jT]
    repeat'(first|refine ud.mk ⟨KI.ok _,Ai KI _ _⟩ ?_|refine ud.mk ⟨KI.ok _,T9 (Uc c) _ hmn hx⟩ ?_|refine wZ.at Am ?_|refine wZ.at (hfT _) ?_|refine IW ?_ ?_<;>intro h<;>try omega)<;>conv=>whnf
    .have h1:1<L.length:=by omega
     rw[hlv,show jT L=L.map Yx from rfl];exact u9.aA h0 [2] (.sl (.loc 1) 0 1 L.length none) [(1, .rows 1 (L.map Yx))] (.inr ⟨c,FJ h1,by rw[iP];exact h1,by rw[iP],by rw[iP],rfl⟩)
    .refine⟨c+1,⟨by omega,eF (by omega)⟩,by omega,?_⟩;conv=>whnf
     refine(uZ.goes (uZ.cD 1 rfl (ZbW _ hmn hx))).trans ?_;exact vY.kA h0 [1]
  .have hce:c=cl.length:=by omega
   subst hce;repeat'(first|refine IW ?_ ?_<;>intro h<;>try omega)<;>conv=>whnf
   exact u9.aA h0 [] (.val (.slice none 0 0)) [] (.inl ⟨ZgJ hb,rfl,rfl,rfl⟩)
open _root_.Go.Proofs.Tryz
def ZgN:uJ:=(ZI [(0,1),(1,1),(2,1),(3,1),(4,1),(5,1),(6,1),(7,1),(8,1),(9,1),(10,1),(11,1),(12,1),(13,0)])
def Tc:uJ:=(ZI [(0,1),(1,1),(2,1),(3,1),(4,1),(6,1),(7,1),(8,1),(5,2),(9,2),(10,3),(11,1),(12,2),(13,3),(14,1),(15,1),(16,1),(17,0)])
theorem Z9f(r:Nat):vW prog uv 62 1 [.ptr (.loc 0) r 16 0] [] []
 (fun v O nx=>v= .arr 1 [[.ptr (.loc 0) r 16 0],[.ptr (.loc 0) r 16 4],[.ptr (.loc 0) r 16 8],[.ptr (.loc 0) r 16 12]]/\O=[]/\nx=1):=by
 refine vW.enter Z3 call62 func62 rfl 16 rfl rfl [.cell 2 100] rfl ?_;intro w0 F η0 h0;conv=>whnf
 repeat'(first|(show uK _ _ _ _ _ _ _;first|refine Zs 1 ZgN ?_)|refine AU ?_)<;>conv=>whnf
 exact u9.aA h0 [] (.arr 1 [[.ptr (.loc 0) r 16 0],[.ptr (.loc 0) r 16 4],[.ptr (.loc 0) r 16 8],[.ptr (.loc 0) r 16 12]]) [] ⟨rfl,rfl,rfl⟩
def nU(A:List LB)(cl:List Int)(q:Qd):Nat->Qd
 |0=>⟨q.s,q.p,q.o,q.g⟩
 |1=>⟨uU A cl q.s,q.p,q.o,q.g⟩
 |2=>⟨uU A cl q.s,uU A cl q.p,q.o,q.g⟩
 |3=>⟨uU A cl q.s,uU A cl q.p,uU A cl q.o,q.g⟩
 |_=>JT A cl q
theorem Zj5{A:List LB}{cl:List Int}{t:Tm}(h:¬t.k=2):uU A cl t=t:=z6 h
theorem Zj6{A:List LB}{cl:List Int}{t:Tm}{n0:Nat}(h:t.k=2)(hn:n0=A.idxOf t.t){c:Int}(hc:cl.getD n0 0=c)(h0:0<=c):uU A cl t=⟨t.k,[99]++itoa c,t.y,t.l⟩:=by
 unfold uU bJ;rw[z8 h,<-hn,hc];have:itoa c=decDigits c.toNat:=by unfold itoa;rw[z6 (by omega)]
 rw[this];rfl
theorem Td{W Z:List Qd}{q:Qd}{k:Nat}(h:k=W.length):((W++q::Z).map Zd)[k]?=some (Zd q):=by
 subst h;rw[z7,zz (zn _)];simp
theorem ZgO{W Z:List Qd}{q q':Qd}{k:Nat}{row:List SV}(h:k=W.length)(hr:row=Zd q'):((W++q::Z).map Zd).set k row=(W++q'::Z).map Zd:=by
 subst h hr;rw[<-xZ,xe _ _ (zn _)];simp
theorem ZbY(A:List LB)(l z:List Qd)(lim:Option Nat)(cl:List Int)(gh:cl.length=A.length)(s4:A.length<=4096)(hl:l.length<=1048576)(hnd:A.Nodup)(hmem:∀s∈ZR l,s∈A)(fL:∀c∈cl,0<=c/\c<10000)(hz:(l++z).length<=1152921504606846976):
 vW prog uv 36 6 [.ptr (.loc 0) 0 0 0, .sl (.loc 4) 0 1 A.length none] [] [(0,GO l.length lim A.length),(1, .rows 16 ((l++z).map Zd)),(2, .mp (kz (X0 0 A A.length))),(4, .rows 1 (cl.map Z8))]
 (fun r O nx=>r= .sl (.loc 6) 0 16 l.length none/\O=[(6, .rows 16 ((ZH A l cl).map Zd))]/\nx=7):=by
 have nT:=Gp (b:=0) hnd;have mA:=MP l z lim (by omega);have Te:=CG (l.map (JT A cl)) (by rw[zj];omega);rw[zj]at Te;refine vW.enter Z3 call36 func36 rfl 53 rfl rfl [.tmp 4] rfl ?_;intro w0 F η0 h0;conv=>whnf
 skip
 refine CALL.aA [1] (mA) ?_;rintro r O nx ⟨rfl,rfl,rfl⟩;conv=>whnf
 skip
 refine ua.j5 Z3 [0,1,5,15] [] (X:=Nat) (fun i=>i<=l.length) (fun i=>[(16, .int .i64 (i:Int))]) (fun i=>[(6, .rows 16 (((l.take i).map (JT A cl)++l.drop i).map Zd))]) 7 (fun i=>l.length-i) 0 (by omega) ?_;conv=>whnf
 refine⟨by exact vY.kA h0 [6],?_⟩;intro i hi;conv=>whnf
 by_cases hil:i<l.length
 .obtain⟨q,hq⟩:∃q,q=l[i]:=⟨_,rfl⟩;have oG:∀s∈ZB q,s∈A:=fun s hs=>hmem s (xy.2 ⟨q,by rw[hq];exact zq hil,hs⟩);have hT:=Z9f (0+(i:Int).toNat);obtain⟨W,hW⟩:∃W,W=(l.take i).map (JT A cl):=⟨_,rfl⟩;have hWl:W.length=i:=by rw[hW,zj,zA];omega
  have hnext:∀Z,(l.take (i+1)).map (JT A cl)++Z=W++JT A cl q::Z:=fun Z=>by rw[zB hil,yo,<-hW,<-hq];simp
  rw[<-hW,zQ hil,<-hq];obtain⟨Z,hZ⟩:∃Z,Z=l.drop (i+1):=⟨_,rfl⟩;rw[<-hZ];repeat'(first|refine AU ?_|refine IW ?_ ?_<;>intro h<;>try omega)<;>conv=>whnf
  refine CALL.aA [6] (hT) ?_;rintro r O nx ⟨rfl,rfl,rfl⟩;conv=>whnf
  skip
  refine ua.j5 Z3 [0,1,5,15,16,22] [] (X:=Nat) (fun j=>j<=4) (fun j=>[(23, .int .i64 (j:Int))]) (fun j=>[(6, .rows 16 ((W++nU A cl q j::Z).map Zd))]) 7 (fun j=>4-j) 0 (by omega) ?_;conv=>whnf
  refine⟨by exact vY.kA h0 [6],?_⟩;intro j hj;conv=>whnf
  by_cases tN:j<4
  .have Ac:j=0\/j=1\/j=2\/j=3:=by omega
   obtain⟨l1,l2,l3,l4⟩:=UB oG;obtain⟨X,hX⟩:∃X,X=j:=⟨_,rfl⟩;rcases Ac with rfl|rfl|rfl|rfl
   all_goals rw[<-hX]at tN
   all_goals first
    |(obtain⟨t,ht,hsub⟩:∃t,t=q.s/\(t.k=2->t.t∈A):=⟨_,rfl,l1⟩;rw[show nU A cl q 0=⟨q.s,q.p,q.o,q.g⟩from rfl])
    |(obtain⟨t,ht,hsub⟩:∃t,t=q.p/\(t.k=2->t.t∈A):=⟨_,rfl,l2⟩;rw[show nU A cl q 1=⟨uU A cl q.s,q.p,q.o,q.g⟩from rfl])
    |(obtain⟨t,ht,hsub⟩:∃t,t=q.o/\(t.k=2->t.t∈A):=⟨_,rfl,l3⟩;rw[show nU A cl q 2=⟨uU A cl q.s,uU A cl q.p,q.o,q.g⟩from rfl])
    |(obtain⟨t,ht,hsub⟩:∃t,t=q.g/\(t.k=2->t.t∈A):=⟨_,rfl,l4⟩;rw[show nU A cl q 3=⟨uU A cl q.s,uU A cl q.p,uU A cl q.o,q.g⟩from rfl])
   all_goals
    repeat'(first|refine ud.mk ⟨by omega,by omega,rfl⟩ ?_|refine GET.at (row:=_) rfl ?_|refine GET.at (Td (by omega)) ?_|(show uK _ _ _ _ _ _ _;first|refine Zs 9 Tc ?_)|refine qW.mk (fun _ _=>?_)|refine AD ?_|refine w6.mk ?_ ?_|refine AU ?_|refine IW ?_ ?_<;>intro h<;>try omega)<;>conv=>whnf
    rotate_left
    .refine⟨X+1,by omega,by omega,?_⟩;rw[show nU A cl q (X+1)=nU A cl q X by subst hX;simp only[nU,JT,Zj5 (show ¬_=(2:Int)from ‹_›)],hX];conv=>whnf
     exact vY.cA h0
    have h2:t.k=2:=by rw[ht];assumption
    have s5:=hsub h2;have jO:=zy s5;have iK:A[A.idxOf t.t]=t.t:=zV jO;have bU:wq 0 A t.t=((A.idxOf t.t:Nat):Int):=by unfold wq;rw[z8 s5];omega
    refine ud.mk ⟨KT.ok _,YW KT qj _⟩ ?_;rw[<-ht];refine jx.A KT qj t.t (X0 0 A A.length) (fun i v hf=>?_) (fun hf=>?_)
    rotate_left
    .have hg:=WO (b:=0) hnd A.length t.t (zn _);rw[VS hf,yx jO]at hg;cases hg
    have hv:=WN hf;rw[nT,bU]at hv;subst hv;obtain⟨n0,hn0⟩:∃n0,n0=A.idxOf t.t:=⟨_,rfl⟩;rw[<-hn0]at jO⊢
    have gC:∀{m:Nat},m=n0->(cl.map Z8)[m]?=some (Z8 (cl[n0]'(by omega))):=fun{m} e=>by
     rw[e,z7,z1 (by omega)];rfl
    have hcb:=fL _ (zq (show n0<cl.length by omega));have hto:=Zj6 h2 hn0 (cl:=cl) (c:=cl[n0]'(by omega)) (by rw[zi,z1 (show n0<cl.length by omega)];rfl) hcb.1
    have hil:(itoa (cl[n0]'(by omega))).length<=4:=by
     have h4:=Ql 3 (cl[n0]'(by omega)).toNat (by omega);have h5:itoa (cl[n0]'(by omega))=decDigits (cl[n0]'(by omega)).toNat:=by unfold itoa;rw[z6 (by omega)]
     rw[h5];exact h4
    rw[ht]at hto;clear oG hf;conv=>whnf
    repeat'(first|refine ud.mk (show 1+(itoa (cl[n0]'(by omega))).length<=9223372036854775807 by omega) ?_|refine GET.at (gC (by omega)) ?_|refine CALL.value (Zz (cl[n0]'(by omega)) ⟨by omega,by omega⟩) rfl rfl ?_|refine GET.at (Td (by omega)) ?_|(show uK _ _ _ _ _ _ _;first|refine Zs 9 Tc ?_)|refine qW.mk (fun _ _=>?_)|refine AD ?_|refine w6.mk ?_ ?_|refine AU ?_|refine IW ?_ ?_<;>intro h<;>try omega)<;>conv=>whnf
    all_goals
     rw[ZgO (q':=nU A cl q (X+1)) (by omega) (by subst hX;simp only[nU,JT,hto];subst ht;rfl)];refine⟨X+1,by omega,by omega,?_⟩;conv=>whnf
     exact vY.kA h0 [6]
  .have oy:j=4:=by omega
   subst oy;rw[show nU A cl q 4=JT A cl q from rfl];repeat'(first|refine AU ?_|refine IW ?_ ?_<;>intro h<;>try omega)<;>conv=>whnf
   refine⟨i+1,by omega,by omega,?_⟩;rw[hnext,<-hZ];conv=>whnf
   exact vY.kA h0 [6]
 .have hie:i=l.length:=by omega
  subst hie;rw[yb,List.drop_length,zU];repeat'(first|refine AU ?_|refine IW ?_ ?_<;>intro h<;>try omega)<;>conv=>whnf
  refine CALL.aA [6] (Te) ?_;rintro r O nx ⟨rfl,rfl,rfl⟩;conv=>whnf
  repeat'(first|refine AU ?_|refine IW ?_ ?_<;>intro h<;>try omega)<;>conv=>whnf
  exact u9.aA h0 [6] (.sl (.loc 6) 0 16 l.length none) [(6, .rows 16 ((ZH A l cl).map Zd))] ⟨rfl,rfl,rfl⟩
end Go.Proofs.YtlcbipfmodcedaaGreatDoor
