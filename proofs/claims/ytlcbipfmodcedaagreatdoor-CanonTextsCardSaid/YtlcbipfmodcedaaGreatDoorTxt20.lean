import Derived.Test.YtlcbipfmodcedaaGreatDoorTxt11
import Derived.Test.YtlcbipfmodcedaaGreatDoorTxt18
import Derived.Test.YtlcbipfmodcedaaGreatDoorTxt19
set_option linter.unusedVariables false
set_option linter.unusedSimpArgs false
set_option maxRecDepth 20000
set_option maxHeartbeats 8000000
namespace Go.Proofs.YtlcbipfmodcedaaGreatDoor
open Go.Sx Go.Our Go.Lib
open _root_.Go.Proofs.Tryz
def lT(col:Nat->Int)(sg:Nat->List Qd)(x:Nat):List DC:=[.v (.int .i64 (x:Int)), .v (.int .i64 (col x)), .wZ 16 ((sg x).map Z4)]
def ew(col:Nat->Int)(sg:Nat->List Qd)(l:List Nat):List (List DC):=l.map (lT col sg)
theorem Zgz{J:Env}{w:World}{i n:Nat}{col:Nat->Int}{sg:Nat->List Qd}{R:List (List SV)}(h:dD J w i 3 (ew col sg (List.range n)) R):∃vl:Nat->Value,R=(List.range n).map (X1 col vl)/\∀x,x<n->qz J w (vl x) 16 ((sg x).map Z4):=by
 have hD:∀x,x<n->(ew col sg (List.range n))[x]?=some (lT col sg x):=fun x hx=>by unfold ew;rw[z6,yG hx];rfl
 have hx:∀x,x<n->∃v,R[x]?=some [.int .i64 (x:Int), .int .i64 (col x), .val v]/\qz J w v 16 ((sg x).map Z4):=fun x hx=>by
  obtain⟨r1,a1,a2⟩:=h.cv x 0 _ _ (hD x hx) rfl;obtain⟨r2,b1,b2⟩:=h.cv x 1 _ _ (hD x hx) rfl;obtain⟨r3,v,c1,c2,c3⟩:=h.ck x 2 _ _ _ (hD x hx) rfl;rw[a1]at b1 c1;injection b1 with b1;injection c1 with c1;subst b1 c1
  have hl:=h.lens x _ _ (hD x hx) a1;refine⟨v,?_,c3⟩;rw[a1]
  match r1,hl,a2,b2,c2 with
  | [p,q,r],_,a2,b2,c2=>
    simp at a2 b2 c2;rw[a2,b2,c2]
 refine⟨fun x=>match R[x]? with|some [_,_, .val v]=>v|_=>undef,?_,fun x bG=>?_⟩
 .apply yx;intro x;by_cases bG:x<n
  .obtain⟨v,h1,_⟩:=hx x bG;rw[z6,yG bG,h1];simp only[Option.map_some,X1,h1]
  rw[zS (by rw[h.len];simp[ew];omega),zS (by simp;omega)]
 .obtain⟨v,h1,h2⟩:=hx x bG;simp only[h1];exact h2
theorem CALL.nodes{M:Mx}{O:w9}{nx:Nat}{K:SV->w9->Nat->Prop}(hP:M.P=prog)(hT:M.C.T=wD){i n:Nat}{col:Nat->Int}{sg:Nat->List Qd}(gE:∀x,(sg x).length<=1152921504606846976)(jm:∀x,0<=col x/\col x<1048576)(hpre:Pre (eT col sg))(hn:n<=1048576)
 (hi:wu i O=some (.deep false 3 (ew col sg (List.range n)))) (hin:i<nx) {n1:Nat} (mG:n1=nx+1) (hK1:n<2->K (.sl (.loc i) 0 3 n none) O nx)
 (hK2:2<=n->∀o:List Nat,o.Perm (List.range n)->(o.Pairwise fun a b=>eT col sg a b<=0)->K (.sl (.loc nx) 0 3 n none) ((nx, .deep false 3 (ew col sg o))::qy i O) n1):
 CALL M 67 [.sl (.loc i) 0 3 n none] O nx K:=by
 subst mG;refine⟨fun J w vs H hd=>?_⟩;obtain⟨R,hR⟩:=O3 (H.own.1 i _ hi).1;obtain⟨vl,rfl,hks⟩:=Zgz hR;have hG:∀x∈List.range n,∃en,qj w (vl x) 16 ((sg x).map Z4) en:=fun x hx=>TC (hks x (yh.1 hx)) (Zy _);have IJ:=Zbb col vl sg gE jm hpre (List.range n) (by simpa using hn) n n 0 (zo _) (by simp);rw[yD,zi (by simp)]at IJ;have Dh:∀j,Zo [i] nx j=if j=0 then i else nx+(j-1):=fun j=>by cases j<;>simp[Zo]
 have hc:CALL (rE M O J w i 3 ((List.range n).map (X1 col vl))) 67 [.sl (.loc i) 0 3 n none] [] nx (fun r' O' w8=>(n<2/\r'= .sl (.loc i) 0 3 n none/\O'=[]/\w8=nx)\/
  (2<=n/\∃o:List Nat,o.Perm (List.range n)/\(o.Pairwise fun a b=>eT col sg a b<=0)/\r'= .sl (.loc nx) 0 3 n none/\O'=[(nx, .rows 3 (o.map (X1 col vl)))]/\w8=nx+1)):=by
  refine CALL.Ky (G:=fun w=> ∀x∈List.range n,∃en,qj w (vl x) 16 ((sg x).map Z4) en) [i] (by show cz _ M.P M.C.T _ _ _ _ _ _;rw[hP,hT];exact IJ) (fun η' w' H' x hx=>by obtain⟨en,h⟩:=hG x hx;exact⟨en,h.now H'.fr (fun k h=>h)⟩) rfl (fun j hj=>by simp at hj;omega) rfl rfl (fun p hp=>by cases hp) (fun j hj=>by cases hj) (fun p hp=>by
   obtain rfl:=zL.1 hp;refine⟨by show 0<1;omega,?_,Yj _ (h:= .rows _ _) (UQ col vl _),by simp[Zd]⟩;rw[Zu _ (h:= .rows _ _) (UQ col vl _)]
   simp[Yk,Dh,rE,cT,jd,ow,wu]) ?_
  rintro r O' w8 (⟨g1,rfl,rfl,rfl⟩|⟨g1,o,po,so,rfl,rfl,rfl⟩);exact .inl ⟨g1,by simp[wR,qo,Dh],by simp[kJ,ZY],by simp⟩
  .refine .inr ⟨g1,o,po,so,by simp[wR,qo,Dh],?_,by simp⟩;simp only[kJ,Zd,ZY,zO,Dh];rw[Zu _ (h:= .rows _ _) (UQ col vl _)];simp
 refine(hc.out J w vs (H.raw hR.sat) hd).mono fun v w' ⟨r',O',w8,η',k1,k2,k3,k4⟩=>?_;rcases k4 with⟨g1,rfl,rfl,rfl⟩|⟨g1,o,po,so,rfl,rfl,rfl⟩
 .have e:η'=J:=(k1.eq_of_length (by rw[k2.len,H.len])).symm;subst e;exact⟨_,O,_,_,zw,H.aV k2.fr,k3,hK1 g1⟩
 .obtain⟨t,rfl⟩:=k1;have hl:=k2.len;rw[zg,H.len]at hl;obtain⟨y,rfl⟩:∃y,t=[y]:=u5.1 (by omega);obtain⟨q1,q2⟩:=k2.own.1 nx (.rows 3 (o.map (X1 col vl))) (by rw[Za,zh rfl])
  have kZ:(J++ [y]).get (.loc nx)=some y:=by
   show(J++ [y])[nx]?=_
   rw[zx (by rw[H.len];omega),H.len,xS];rfl
  cases y with
  |none=>
   exfalso;simp only[uZ]at q1;rcases q1 with⟨_,q3⟩|⟨e,_,_,_,q3,_⟩
   .have:=po.length_eq;rw[yU]at this;have h0:o=[]:=by simpa using q3
    rw[h0]at this;simp at this;omega
   rw[kZ]at q3;cases q3
  |some x=>
   have hx:w.heap.size<=x.g:=(q2 x.g (wq.own kZ)).elim (fun h=>h.elim) id;have od:o.Nodup:=po.nodup_iff.2 vh;have IK:∀r (h:r<o.length),o[r]<n:=fun r h=>yh.1 (po.mem_iff.1 (zm h));refine⟨_,_,nx+1,_,zC _ _,H.QV (D':=ew col sg o) (pS:=fun r=>o.getD r 0) hi k2.fr hx q1 (by simp[ew]) ?_ ?_ ?_ ?_ ?_,k3,hK2 g1 o po so⟩
   .intro r row hr;unfold ew at hr⊢;rw[z6]at hr;obtain⟨y,h1,rfl⟩:=zB.1 hr;obtain⟨h2,h3⟩:=zf.1 h1;have h4:o.getD r 0=y:=by rw[zl,h1];rfl
    rw[h4,z6,yG (h3▸IK r h2)];rfl
   .intro r r' h1 h2 h3;have e1:r<o.length:=by simpa[ew]using h1
    have e2:r'<o.length:=by simpa[ew]using h2
    simp only[zl,z1 e1,z1 e2,Option.getD_some]at h3;exact(xm od).1 h3
   .intro r c row sv hr hc;unfold ew at hr;rw[z6]at hr;obtain⟨y,h1,rfl⟩:=zB.1 hr;refine⟨X1 col vl y,by rw[z6,h1];rfl,?_⟩
    match c,hc with
    |0,hc=>simp[lT]at hc;simp[X1,hc]
    |1,hc=>simp[lT]at hc;simp[X1,hc]
    |2,hc=>simp[lT]at hc
    |c+3,hc=>simp[lT]at hc
   .intro r c row es' rows hr hc;unfold ew at hr;rw[z6]at hr;obtain⟨y,h1,rfl⟩:=zB.1 hr;obtain⟨h2,h3⟩:=zf.1 h1;have hy:y<n:=h3▸IK r h2;have h4:o.getD r 0=y:=by rw[zl,h1];rfl
    have mq:c=2:=by
     match c,hc with
     |0,hc=>simp[lT]at hc
     |1,hc=>simp[lT]at hc
     |2,_=>rfl
     |c+3,hc=>simp[lT]at hc
    subst mq;have hs:=hR.sat;simp only[uZ]at hs;rcases hs with⟨_,hs⟩|⟨e,arr,Tt,fz,g2,g3,_,g5⟩
    .have:(List.range n).map (X1 col vl)=[]:=hs;have hlz:=ze List.length this;simp at hlz;omega
    .obtain⟨_,g6⟩:=g5 y (X1 col vl y) (by rw[z6,yG hy];rfl);obtain⟨u,g7,_,g8⟩:=g6 2 (.val (vl y)) rfl;simp only[Den]at g8;have hb:=(((H.own.1 i _ hi).1.qZ).2.1 e g2).1;refine⟨X1 col vl y,vl y,e,_,by rw[z6,h1];rfl,rfl,g2,g3,?_⟩;simp only[ZJ];rw[hb,zy]at g7;rw[h4,g7,g8.1]
   .intro r row fC h1 h2;unfold ew at h1;rw[z6]at h1 h2;obtain⟨y,_,rfl⟩:=zB.1 h1;obtain⟨y2,_,rfl⟩:=zB.1 h2
    rfl
end Go.Proofs.YtlcbipfmodcedaaGreatDoor
namespace Go.Proofs.YtlcbipfmodcedaaGreatDoor
open Go.Sx Go.Our Go.Lib
open _root_.Go.Proofs.Tryz
def Di:wP:=(Zr [(0,1),(1,1),(2,1),(3,1),(4,1),(6,1),(7,1),(8,1),(5,2),(9,3),(10,1),(11,3),(12,0),(13,1)])
def Dj:wP:=(Zr [(0,1),(1,1),(2,1),(3,1),(4,1),(5,1),(6,1),(8,1),(9,1),(10,1),(7,2),(11,2),(12,3),(13,1),(14,1)])
def Dk:wP:=(Zr [(0,1),(1,1),(2,1),(3,1),(4,1),(6,1),(7,1),(8,1),(9,1),(10,1),(11,1),(5,2),(12,2),(13,1),(14,2),(15,1),(16,0)])
theorem ZmE(col:Nat->Int)(sg:Nat->List Qd):∀l:List Nat,YU (ew col sg l)=true
 | []=>rfl
 |x::l=>by
  have:=ZmE col sg l;unfold ew at this⊢;rw[zI,YU,this];simp[lT,JM,ia,plain,Zy]
instance {col:Nat->Int}{sg:Nat->List Qd}{l:List Nat}:GO (ew col sg l):=⟨ZmE col sg l⟩
theorem ZkB(T:kE)(col:Nat->Int)(sg:Nat->List Qd)(x k n:Nat)(a b:Int):List.take x (ew col sg (List.range x))++List.map (fun row=>List.map (cc T 135) row) (List.take 1 (List.drop 0 [[SV.int .i64 a,SV.int .i64 b,SV.sl (.loc k) 0 16 n none]]))=ew col sg (List.range x)++ [[.v (.int .i64 a), .v (.int .i64 b), .v (.sl (.loc k) 0 16 n none)]]:=by
 rw[zi (by simp[ew])];rfl
theorem ZkC(col:Nat->Int)(sg:Nat->List Qd)(x:Nat){row:List DC}:(ew col sg (List.range x)++ [row])[x]?=some row:=by
 rw[zx (by simp[ew])];simp[ew]
theorem Zm7(col:Nat->Int)(sg:Nat->List Qd)(x:Nat){sv:SV}:q9 (ew col sg (List.range x)++ [[.v (.int .i64 (x:Int)), .v (.int .i64 (col x)), .v sv]]) x 2 (.wZ 16 (((sg x).map Z4).take (sg x).length))=ew col sg (List.range (x+1)):=by
 rw[zi (by simp)];unfold q9 ew;rw[uu,yj];apply yx;intro i;rw[yp];by_cases e:x=i
 .subst e;rw[zx (by simp),zx (by simp)];simp[lT]
 .simp only[e,v8];by_cases h:i<x
  rw[zn (by simpa using h),zn (by simpa using h)];simp;rw[zS (by simp;omega),zS (by simp;omega)];rfl
theorem IQ(σ:Nat->Nat)(n x:Nat)(sv:SV):wJ σ (.rows 1 (JR n x sv))= .rows 1 (JR n x (wR σ sv)):=by
 have go:∀l:List Nat,Xo σ (l.map fun y=>[if y=x then sv else .any])=l.map fun y=>[if y=x then wR σ sv else .any]:=fun l=>by
  induction l with
  |nil=>rfl
  |cons y l ih=>
   simp only[zI,Xo,qg,ih];by_cases h:y=x
   simp[h];simp[h,wR]
 simp only[wJ,JR,go]
theorem ZdT{k n x:Nat}{sv:SV}(h:ZV k sv=true):Zi k (.rows 1 (JR n x sv))=true:=by
 have go:∀l:List Nat,Yw k (l.map fun y=>[if y=x then sv else .any])=true:=fun l=>by
  induction l with
  |nil=>rfl
  |cons y l ih=>
   simp only[zI,Yw,ZO,ih];by_cases h2:y=x
   simp[h2,h];simp[h2,ZV]
 simp only[Zi,JR,go]
theorem IU{K:Env}{w:World}{F:Nat->Prop}{i:Nat}{col:Nat->Int}{sg:Nat->List Qd}{o:List Nat}{R:List (List SV)}(hR:dD K w i 3 (ew col sg o) R)
 (hk:∀(r c es':Nat) (rows:List (List SV)) (row:List DC),(ew col sg o)[r]?=some row->row[c]?=some (.wZ es' rows)->Zp rows=true->∃fC v,R[r]?=some fC/\fC[c]?=some (.val v)/\∀w',jS w w' F->∃en,qj w' v es' rows en):
 ∃v:Nat->Value,(∀j (h:j<o.length),R[j]?=some [.int .i64 (o[j]:Int), .int .i64 (col o[j]), .val (v j)])/\∀j (h:j<o.length) w',jS w w' F->∃en,qj w' (v j) 16 ((sg o[j]).map Z4) en:=by
 have hD:∀j (h:j<o.length),(ew col sg o)[j]?=some (lT col sg o[j]):=fun j h=>by unfold ew;rw[z6,z1 h];rfl
 have hx:∀j (h:j<o.length),∃v,R[j]?=some [.int .i64 (o[j]:Int), .int .i64 (col o[j]), .val v]/\∀w',jS w w' F->∃en,qj w' v 16 ((sg o[j]).map Z4) en:=fun j h=>by
  obtain⟨r1,a1,a2⟩:=hR.cv j 0 _ _ (hD j h) rfl;obtain⟨r2,b1,b2⟩:=hR.cv j 1 _ _ (hD j h) rfl;obtain⟨r3,v,c1,c2,c3⟩:=hk j 2 _ _ _ (hD j h) rfl (Zy _);rw[a1]at b1 c1;injection b1 with b1;injection c1 with c1;subst b1 c1
  have hl:=hR.lens j _ _ (hD j h) a1;refine⟨v,?_,c3⟩;rw[a1]
  match r1,hl,a2,b2,c2 with
  | [p,q,r],_,a2,b2,c2=>
    simp at a2 b2 c2;rw[a2,b2,c2]
 refine⟨fun j=>match R[j]? with|some [_,_, .val v]=>v|_=>undef,fun j h=>?_,fun j h=>?_⟩
 .obtain⟨v,h1,_⟩:=hx j h;simp only[h1]
 .obtain⟨v,h1,h2⟩:=hx j h;simp only[h1];exact h2
theorem OY{A:List LB}{l:List Qd}{cl:List Int}(hl:l.length<=1048576)(x:Nat):(Yu A l cl x).length<=1152921504606846976:=zP (Oj hl x) (by omega)
theorem IV(A:List LB)(l z:List Qd)(lim ll:Option Nat)(cl:List Int)(bF:fN A l cl)(hpk:∀q∈l, ¬q.p.k=2)(hz:(l++z).length<=1152921504606846976):
 uX prog wD 34 6 [.ptr (.loc 0) 0 0 0, .sl (.loc 4) 0 1 A.length none] [(3, .deep false 1 (kL (qv A l))),(4, .rows 1 (cl.map Zg))] [(0,FV l.length lim A.length ll none),(1, .rows 16 ((l++z).map Z4)),(2, .mp (kU (Xt 0 A A.length)))]
 (fun r O nx=> ∃F,Refs A l cl F/\r= .sl (.loc 6) 0 1 A.length none/\O=[(3, .deep false 1 (kL (qv A l))),(6, .rows 1 (F.map Zg))]/\nx=7):=by
 have bD:=bF.few;refine uX.enter Z0 call34 func34 rfl 85 rfl rfl [.tmp 4] rfl ?_;intro w0 F η0 h0;conv=>whnf
 skip
 refine wj.jD Z0 [0] [] (X:=List Int) (fun c=>fN A l c/\∀F,Refs A l c F->Refs A l cl F) (fun c=>[(1, .sl (.loc 6) 0 1 A.length none)]) (fun c=>[(3, .deep false 1 (kL (qv A l))),(6, .rows 1 (c.map Zg))]) 7 (fun c=>A.length-kj c) cl ⟨bF,fun F h=>h⟩ ?_;conv=>whnf
 refine⟨by exact w5.kA h0 [4],?_⟩;rintro c ⟨hc,hR⟩;have gm:=hc.cn;have hS:=fun x (hx:x<A.length)=>Zbd A l z lim ll c x hx hc.cn hc.few hc.ln hc.nd hc.mem hc.cs hpk hz;have hc1:=Iu (Yx A l c) none (by rw[X0,hc.cn];omega);have hc0:=Iu c none (by rw[hc.cn];omega);rw[X0,hc.cn]at hc1;rw[hc.cn]at hc0;conv=>whnf
 skip
 refine wj.nil 5 3 rfl ?_;refine qx.loop (qx.bY 7 (ew (ez c) (Yu A l c) (List.range 0)) rfl (by unfold ew;first|exact .nil|(simp[ER]))) ?_;refine wj.jD Z0 [0,1] [] (X:=Nat) (fun x=>x<=A.length) (fun x=>[(6, .int .i64 (x:Int)),(5, .sl (.loc 7) 0 3 x none)]) (fun x=>[(3, .deep false 1 (kL (qv A l))),(6, .rows 1 (c.map Zg)),(7, .deep false 3 (ew (ez c) (Yu A l c) (List.range x)))]) 8 (fun x=>A.length-x) 0 (by omega) ?_;conv=>whnf
 refine⟨by exact w5.kA h0 [6,7],?_⟩;intro x hx;conv=>whnf
 by_cases hxA:x<A.length
 .have hs:=hS x hxA;have gC:∀{k:Nat},k=x->(c.map Zg)[k]?=some (Zg (ez c x)):=fun e=>by subst e;unfold ez;rw[z6,zl,z1 (by omega)];rfl
  repeat'(first|(show wO _ _ _ _ _ _ _;first|refine Z3 5 Di ?_|refine Z3 11 Dj ?_|refine Z3 12 Dk ?_)|refine qJ.mk (fun _ _=>?_)|refine GET.at (gC (by omega)) ?_|refine AU ?_|refine IW ?_ ?_<;>intro h<;>try omega)<;>conv=>whnf
  have FJ:x< (qv A l).length:=by simp[qv];omega
  have TP:(kL (qv A l)).length=A.length:=by simp[kL,qv]
  have hIx:((qv A l)[x]).map Yf=(au A l x).map Yf:=by simp[qv]
  refine CALL.sL (i:=3) (x:=x) (D:=kL (qv A l)) (rows:=(au A l x).map Yf) rfl (by rw[UW FJ,<-hIx];rfl) (Zk4 _) (fun η1=>?_);rw[TP,zA];refine CALL.aA [0,1,2,3,6,5,8] hs ?_ (nR:=?_) (hS:=?_)
  rotate_left
  .repeat'(first|(refine Ym rfl ?_ ?_)|exact ZdT rfl|exact rq|exact ru|rfl)
  .repeat'(first|exact trivial|(with_reducible rfl)|exact(IQ _ _ _ _).symm|exact dM.symm|exact tC|exact dN.symm|exact tD|exact rfl|((conv=>whnf);refine And.intro ?_ ?_))
   rw[IQ];rfl
  rintro r O nx ⟨rfl,rfl,rfl⟩;conv=>whnf
  repeat'(first|refine qJ.mk (fun _ _=>?_)|refine wm.mk (Zm 40 rfl rfl rfl (by simp[ew]) (by omega)) ?_)<;>conv=>whnf
  refine⟨x+1,by omega,by omega,?_⟩;rw[ZkB];conv=>whnf
  refine(qx.goes (qx.dZ 11 x 2 9 rfl (ZkC _ _ _) rfl rfl (by rw[Zb _ (Zy _),zA];exact zo _) (by decide))).trans ?_;rw[Zb _ (Zy _),Zm7];exact w5.kA h0 [6,11]
 .have K5:x=A.length:=by omega
  subst K5;repeat'(first|refine IW ?_ ?_<;>intro h<;>try omega)<;>conv=>whnf
  refine CALL.nodes (col:=ez c) (sg:=Yu A l c) (i:=7) (n:=A.length) rfl rfl (OY hc.ln) (OW hc.cs) (ZkA A l c) (by omega) rfl (by omega) (n1:=9) rfl (fun hn2=>?_) (fun hn2 o po so=>?_)
  .obtain⟨o,ho⟩:∃o,o=List.range A.length:=⟨_,rfl⟩;have po:o.Perm (List.range A.length):=ho▸vF _;have so:o.Pairwise fun a b=>eT (ez c) (Yu A l c) a b<=0:=VT (by rw[ho,yU];exact hn2);rw[<-ho];conv=>whnf
   have mB:o.length=A.length:=by rw[po.length_eq,yU]
   have bh:∀x∈o,x<A.length:=fun x hx=>yh.1 (po.mem_iff.1 hx);have hnd:o.Nodup:=po.symm.nodup vh;have hpre:=VM A l c;have hs:=IP so;obtain⟨f,hf⟩:∃f,f=UZ A l c:=⟨_,rfl⟩;have hstep:Yx A l c=kq f o A.length o.length:=by rw[Oe po,hf];unfold Yx;rw[gm]
   repeat'(first|refine wm.mk (UN 8 rfl (by omega) (by omega) (by omega) (by omega)) ?_)<;>conv=>whnf
   rw[Int.toNat_natCast,show List.replicate A.length [SV.int .i64 0]=(List.replicate A.length 0).map Zg by rw[x8];rfl,<-Od (c:=f) (o:=o)];refine wj.rest (i:=7) (O1:=[(8, .rows 1 ((kq f o A.length 0).map Zg)),(3, .deep false 1 (kL (qv A l))),(6, .rows 1 (c.map Zg))]) rfl rfl (fun K w h1 R OZ hk=>?_);obtain⟨v,gR,hv⟩:=IU OZ hk;clear hk;have tL:=h0;have h0:=h1;refine wj.jD Z0 [0,1,5,7] [] (X:=Nat) (fun i=>i<=o.length) (fun i=>[(8, .int .i64 (i:Int))]) (fun i=>[(3, .deep false 1 (kL (qv A l))),(6, .rows 1 (c.map Zg)),(8, .rows 1 ((kq f o A.length i).map Zg))]) 9 (fun i=>o.length-i) 0 (by omega) ?_;conv=>whnf
   refine⟨by exact w5.kA h0 [],?_⟩;intro i hi;conv=>whnf
   by_cases hil:i<o.length
   .have bG:=bh _ (zm hil);have gO:∀{k m:Nat} (h:k<o.length),m=k->R[m]?=some [.int .i64 (o[k]:Int), .int .i64 (ez c o[k]), .val (v k)]:=fun h e=>by subst e;exact gR _ h
    obtain⟨v0,kH⟩:∃v0,∀{m:Nat},m=o[i]->((kq f o A.length i).map Zg)[m]?=some (Zg v0):=⟨(kq f o A.length i)[o[i]]'(by rw[Ju];exact bG),fun e=>by
     subst e;rw[z6,z1 (by rw[Ju];exact bG)];rfl⟩
    rcases i with _|j
    .have hr:=KB (c:=f) hnd hil bG (v:=0) (by rw[Oh (by rw[hf];exact hpre) (by rw[hf];exact hs)];rfl);repeat'(first|refine GET.at (gO hil (by omega)) ?_|refine GET.at (kH (by omega)) ?_|(show wO _ _ _ _ _ _ _;first|refine Z3 5 Di ?_|refine Z3 11 Dj ?_|refine Z3 12 Dk ?_)|refine AU ?_|refine IW ?_ ?_<;>intro h<;>try omega)<;>conv=>whnf
     all_goals first|(exfalso;omega)|skip
     rw[Uk (x:=o[0]) (by omega)];refine⟨1,by omega,by omega,?_⟩;rw[<-hr];conv=>whnf
     exact w5.kA h0 []
    .have hj:j<o.length:=by omega
     have hjn:=bh _ (zm hj);have hne:o[j]≠o[j+1]:=fun e=>by have:=(xm hnd).1 e;omega
     have cr:=Oi (c:=f) (by rw[hf];exact hpre) (by rw[hf];exact hs) hil;have ku:=fun(v:Int) (hv:v=(qG f o o[j+1]:Int))=>KB (c:=f) hnd hil bG hv;have hgt:=Og (c:=f) (n:=A.length) (i:=j+1) (ua j) hj hjn
     have gT:∀{m:Nat},m=o[j]->((kq f o A.length (j+1)).map Zg)[m]?=some (Zg (qG f o o[j]:Int)):=fun e=>by
      subst e;rw[z6,hgt];rfl
     have b8:=(H7 A l c o[j] o[j+1]).2;unfold oU at b8;repeat'(first|refine IW ?_ ?_<;>intro h<;>try omega)<;>conv=>whnf
     all_goals first
      |(exfalso;omega)
      |(have hr:=ku (qG f o o[j]:Int) (by rw[cr,zh (by rw[hf];omega)]);rw[Uk (x:=o[j+1]) (by omega),hr];refine⟨j+2,by omega,by omega,?_⟩;(conv=>whnf);exact w5.kA h0 [])
      |(have hr:=ku ((j+1:Nat):Int) (by rw[cr,z7 (by rw[hf];omega)]);rw[Uk (x:=o[j+1]) (by omega),hr];refine⟨j+2,by omega,by omega,?_⟩;(conv=>whnf);exact w5.kA h0 [])
   .have hie:i=o.length:=by omega
    have h0:=tL;subst hie;rw[<-hstep];repeat'(first|refine IW ?_ ?_<;>intro h<;>try omega)<;>conv=>whnf
    refine CALL.aA [8] (hc1) ?_;rintro r O nx ⟨rfl,rfl,rfl⟩;conv=>whnf
    skip
    refine CALL.aA [6] (hc0) ?_;rintro r O nx ⟨rfl,rfl,rfl⟩;conv=>whnf
    repeat'(first|refine IW ?_ ?_<;>intro h<;>try omega)<;>conv=>whnf
    .have hst:kj (Yx A l c)=kj c:=by omega
     exact wh.aA h0 [8] (.sl (.loc 6) 0 1 A.length none) [(3, .deep false 1 (kL (qv A l))),(6, .rows 1 ((Yx A l c).map Zg))] ⟨_,hR _ (.stop hst),rfl,rfl,rfl⟩
    .have hst:kj (Yx A l c)≠kj c:=by omega
     have hge:=On A l c;have hle:=Om (Yx A l c);rw[X0,hc.cn]at hle;refine⟨Yx A l c,⟨hc.step,fun F hF=>hR F (.go hst hF)⟩,by omega,?_⟩;conv=>whnf
     exact w5.kA h0 [8]
  .conv=>whnf
   have mB:o.length=A.length:=by rw[po.length_eq,yU]
   have bh:∀x∈o,x<A.length:=fun x hx=>yh.1 (po.mem_iff.1 hx);have hnd:o.Nodup:=po.symm.nodup vh;have hpre:=VM A l c;have hs:=IP so;obtain⟨f,hf⟩:∃f,f=UZ A l c:=⟨_,rfl⟩;have hstep:Yx A l c=kq f o A.length o.length:=by rw[Oe po,hf];unfold Yx;rw[gm]
   repeat'(first|refine wm.mk (UN 8 rfl (by omega) (by omega) (by omega) (by omega)) ?_)<;>conv=>whnf
   rw[Int.toNat_natCast,show List.replicate A.length [SV.int .i64 0]=(List.replicate A.length 0).map Zg by rw[x8];rfl,<-Od (c:=f) (o:=o)];refine wj.rest (i:=8) (O1:=[(9, .rows 1 ((kq f o A.length 0).map Zg)),(3, .deep false 1 (kL (qv A l))),(6, .rows 1 (c.map Zg))]) rfl rfl (fun K w h1 R OZ hk=>?_);obtain⟨v,gR,hv⟩:=IU OZ hk;clear hk;have tL:=h0;have h0:=h1;refine wj.jD Z0 [0,1,5,7] [] (X:=Nat) (fun i=>i<=o.length) (fun i=>[(8, .int .i64 (i:Int))]) (fun i=>[(3, .deep false 1 (kL (qv A l))),(6, .rows 1 (c.map Zg)),(9, .rows 1 ((kq f o A.length i).map Zg))]) 10 (fun i=>o.length-i) 0 (by omega) ?_;conv=>whnf
   refine⟨by exact w5.kA h0 [],?_⟩;intro i hi;conv=>whnf
   by_cases hil:i<o.length
   .have bG:=bh _ (zm hil);have gO:∀{k m:Nat} (h:k<o.length),m=k->R[m]?=some [.int .i64 (o[k]:Int), .int .i64 (ez c o[k]), .val (v k)]:=fun h e=>by subst e;exact gR _ h
    obtain⟨v0,kH⟩:∃v0,∀{m:Nat},m=o[i]->((kq f o A.length i).map Zg)[m]?=some (Zg v0):=⟨(kq f o A.length i)[o[i]]'(by rw[Ju];exact bG),fun e=>by
     subst e;rw[z6,z1 (by rw[Ju];exact bG)];rfl⟩
    rcases i with _|j
    .have hr:=KB (c:=f) hnd hil bG (v:=0) (by rw[Oh (by rw[hf];exact hpre) (by rw[hf];exact hs)];rfl);repeat'(first|refine GET.at (gO hil (by omega)) ?_|refine GET.at (kH (by omega)) ?_|(show wO _ _ _ _ _ _ _;first|refine Z3 5 Di ?_|refine Z3 11 Dj ?_|refine Z3 12 Dk ?_)|refine AU ?_|refine IW ?_ ?_<;>intro h<;>try omega)<;>conv=>whnf
     all_goals first|(exfalso;omega)|skip
     rw[Uk (x:=o[0]) (by omega)];refine⟨1,by omega,by omega,?_⟩;rw[<-hr];conv=>whnf
     exact w5.kA h0 []
    .have hj:j<o.length:=by omega
     have hjn:=bh _ (zm hj);have hne:o[j]≠o[j+1]:=fun e=>by have:=(xm hnd).1 e;omega
     have cr:=Oi (c:=f) (by rw[hf];exact hpre) (by rw[hf];exact hs) hil;have ku:=fun(v:Int) (hv:v=(qG f o o[j+1]:Int))=>KB (c:=f) hnd hil bG hv;have hgt:=Og (c:=f) (n:=A.length) (i:=j+1) (ua j) hj hjn
     have gT:∀{m:Nat},m=o[j]->((kq f o A.length (j+1)).map Zg)[m]?=some (Zg (qG f o o[j]:Int)):=fun e=>by
      subst e;rw[z6,hgt];rfl
     have b8:=(H7 A l c o[j] o[j+1]).2;unfold oU at b8;repeat'(first|(refine qJ.tw (fun η3 w3 H3=>?_);(have IX:=fun x hx=>hv x hx w3 H3.fr))|refine GET.at (gO hil (by omega)) ?_|refine GET.at (gO hj (by rw[Z5 (by omega) (by omega)];omega)) ?_|refine GET.at (kH (by omega)) ?_|refine GET.at (gT (by omega)) ?_|(show wO _ _ _ _ _ _ _;first|refine Z3 5 Di ?_|refine Z3 11 Dj ?_|refine Z3 12 Dk ?_)|refine CALL.pR (JW (o[j]:Int) (o[j+1]:Int) (ez c o[j]) (ez c o[j+1]) (v j) (v (j+1)) (Yu A l c o[j]) (Yu A l c o[j+1]) (OY hc.ln _) (OY hc.ln _) (OW hc.cs _) (OW hc.cs _)) (fun η' w' H'=>⟨(let⟨en,h⟩:=IX j hj;⟨en,h.now H'.fr (fun k h=>h)⟩),(let⟨en,h⟩:=IX (j+1) hil;⟨en,h.now H'.fr (fun k h=>h)⟩)⟩) rfl rfl ?_|refine AU ?_|refine IW ?_ ?_<;>intro h<;>try omega)<;>conv=>whnf
     all_goals first
      |(exfalso;omega)
      |(have hr:=ku (qG f o o[j]:Int) (by rw[cr,zh (by rw[hf];omega)]);rw[Uk (x:=o[j+1]) (by omega),hr];refine⟨j+2,by omega,by omega,?_⟩;(conv=>whnf);exact w5.kA h0 [])
      |(have hr:=ku ((j+1:Nat):Int) (by rw[cr,z7 (by rw[hf];omega)]);rw[Uk (x:=o[j+1]) (by omega),hr];refine⟨j+2,by omega,by omega,?_⟩;(conv=>whnf);exact w5.kA h0 [])
   .have hie:i=o.length:=by omega
    have h0:=tL;subst hie;rw[<-hstep];repeat'(first|refine IW ?_ ?_<;>intro h<;>try omega)<;>conv=>whnf
    refine CALL.aA [9] (hc1) ?_;rintro r O nx ⟨rfl,rfl,rfl⟩;conv=>whnf
    skip
    refine CALL.aA [6] (hc0) ?_;rintro r O nx ⟨rfl,rfl,rfl⟩;conv=>whnf
    repeat'(first|refine IW ?_ ?_<;>intro h<;>try omega)<;>conv=>whnf
    .have hst:kj (Yx A l c)=kj c:=by omega
     exact wh.aA h0 [9] (.sl (.loc 6) 0 1 A.length none) [(3, .deep false 1 (kL (qv A l))),(6, .rows 1 ((Yx A l c).map Zg))] ⟨_,hR _ (.stop hst),rfl,rfl,rfl⟩
    .have hst:kj (Yx A l c)≠kj c:=by omega
     have hge:=On A l c;have hle:=Om (Yx A l c);rw[X0,hc.cn]at hle;refine⟨Yx A l c,⟨hc.step,fun F hF=>hR F (.go hst hF)⟩,by omega,?_⟩;conv=>whnf
     exact w5.kA h0 [9]
theorem P0{l:List Qd}(h:jy l=0):(ZK l).2=0/\(ZA l).length<=4096:=by
 unfold jy at h;split at h
 omega
 .rename_i h2;exact⟨h,u9 fun h3=>h2 ⟨h,h3⟩⟩
open _root_.Go.Proofs.Tryz
def ZgC:wP:=(Zr [(0,1),(1,1),(2,1),(3,1),(5,1),(8,1),(9,1),(10,1),(4,2),(6,1),(7,2),(11,2),(12,3),(13,1),(14,1),(15,3),(16,0),(17,1)])
theorem Zik{A:List LB}{c:List Int}(gm:c.length=A.length){i:Nat}(hil:i<A.length):
 List.take i (((qV A c).take i).map XX)++List.take 1 (List.drop 0 [[SV.str A[i],SV.str ((ByteArray.mk #[99]).data.toList++decDigits (c[i]'(by omega)).toNat)]])=((qV A c).take (i+1)).map XX:=by
 have hp:i< (qV A c).length:=by rw[qD];exact hil
 rw[zH hp,tH hil hp,yj,zi (by simp;omega)];have:c.getD i 0=c[i]'(by omega):=by rw[zl,z1 (by omega)];rfl
 rw[this]
 rfl
theorem ZdU(A:List LB)(l z:List Qd)(lim la:Option Nat)(cl:List Int)(sP:qT A cl)(bD:A.length<=4096)(Q2:Xs l)(hl:l.length<=1048576)(hr:kC ZM l)(hnd:A.Nodup)(hmem:∀s∈ZE l,s∈A)(hz:(l++z).length<=1152921504606846976):
 uX prog wD 78 6 [.ptr (.loc 0) 0 0 0, .sl (.loc 4) 0 1 A.length none] [] [(0,FV l.length lim A.length none la),(1, .rows 16 ((l++z).map Z4)),(4, .rows 1 (cl.map Zg)),(5, .rows 1 (A.map Zh))]
 (fun r O nx=>r= .wM [.sl (.loc 6) 0 16 l.length none, .sl (.loc 7) 0 2 A.length none]/\O=[(6, .rows 16 ((ZC A l cl).map Z4)),(7, .rows 2 ((qV A cl).map XX))]/\nx=8):=by
 have gm:=sP.cn;have IY:=Z9t l z lim (qV A cl) [] none Q2 hz (by rw[zO,qD];omega);rw[zO,RM sP hnd hr hmem,qD]at IY;have hfl:=Jt A l cl;refine uX.enter Z0 call78 func78 rfl 41 rfl rfl [.tmp 4, .tmp 5] rfl ?_;intro w0 F η0 h0;conv=>whnf
 skip
 refine wj.nil 6 2 rfl ?_;refine wj.jD Z0 [0,1] [] (X:=Nat) (fun i=>i<=A.length) (fun i=>[(7, .int .i64 (i:Int)),(6, .sl (.loc 6) 0 2 i none)]) (fun i=>[(6, .rows 2 (((qV A cl).take i).map XX))]) 7 (fun i=>A.length-i) 0 (by omega) ?_;conv=>whnf
 refine⟨by exact w5.kA h0 [6],?_⟩;intro i hi;conv=>whnf
 by_cases hil:i<A.length
 .have hv:=sP.cs _ (zm (show i<cl.length by omega));have gA:∀{m:Nat},m=i->(A.map Zh)[m]?=some (Zh A[i]):=fun e=>by subst e;rw[z6,z1 hil];rfl
  have gC:∀{m:Nat},m=i->(cl.map Zg)[m]?=some (Zg ((cl[i]'(by omega)).toNat:Int)):=fun e=>by subst e;rw[z6,z1 (by omega),vQ hv.1];rfl
  have OP:(decDigits (cl[i]'(by omega)).toNat).length<=4:=Wn 3 _ (by omega);have QK:=Is 1 (cl[i]'(by omega)).toNat (by omega) (by omega);rw[Zku]at QK;have o9:=Zik (A:=A) (c:=cl) gm hil;repeat'(first|refine GET.at (gA (by omega)) ?_|refine GET.at (gC (by omega)) ?_|refine CALL.value (QK) rfl rfl ?_|refine wm.mk (show 1+(decDigits (cl[i]'(by omega)).toNat).length<=9223372036854775807 by omega) ?_|refine wm.mk (Zm 32 rfl rfl rfl (by simp[qD];omega) (by omega)) ?_|(show wO _ _ _ _ _ _ _;first|refine Z3 5 ZgC ?_)|refine qJ.mk (fun _ _=>?_)|refine AD ?_|refine AU ?_|refine IW ?_ ?_<;>intro h<;>try omega)<;>conv=>whnf
  all_goals
   refine⟨i+1,by omega,by omega,?_⟩;rw[o9];conv=>whnf
   exact w5.kA h0 [8]
 .have hie:i=A.length:=by omega
  subst hie;rw[zi (by rw[qD];exact zo _)];repeat'(first|refine IW ?_ ?_<;>intro h<;>try omega)<;>conv=>whnf
  refine CALL.aA [1,6] (IY) ?_;rintro r O nx ⟨rfl,rfl,rfl⟩;conv=>whnf
  skip
  rw[hfl];exact wh.aA h0 [7,6] (.wM [.sl (.loc 6) 0 16 l.length none, .sl (.loc 7) 0 2 A.length none]) [(6, .rows 16 ((ZC A l cl).map Z4)),(7, .rows 2 ((qV A cl).map XX))] ⟨rfl,rfl,rfl⟩
open _root_.Go.Proofs.Tryz
def Un(b:fI):List Qd:=match b with|none=>[]|some p=>p.1
def bH(A:List LB)(b:fI):List Pr:=match b with|none=>[]|some p=>qV A p.2
def Dl(b:fI):Bool:=match b with|none=>false|some _=>true
abbrev Dm(A:List LB)(B n:Nat)(ov:Bool)(b:fI)(p q:Nat):Hp:= .box [.ptr (.loc 0) 0 0 0, .int .i64 ((B:Int)-(n:Int)), .bool ov, .bool (Dl b), .sl (.loc p) 0 16 (Un b).length none, .sl (.loc q) 0 2 (bH A b).length none]
abbrev rG(A:List LB)(l:List Qd)(B n:Nat)(ov:Bool)(b:fI)(p q:Nat):w9:=[(3, .deep false 1 (kL (qv A l))),(6,Dm A B n ov b p q),(p, .rows 16 ((Un b).map Z4)),(q, .rows 2 ((bH A b).map XX))]
abbrev goS(A:List LB)(l z:List Qd)(lim:Option Nat)(cl:List Int):w9:=[(0,FV l.length lim A.length none none),(1, .rows 16 ((l++z).map Z4)),(2, .mp (kU (Xt 0 A A.length))),(4, .rows 1 (cl.map Zg)),(5, .rows 1 (A.map Zh))]
def Dn(A:List LB)(l:List Qd)(B:Nat)(s:Nat×List (List Int)):SV->w9->Nat->Prop:=fun r O nx=>
 (∀cl∈s.2,qT A cl)/\r= .wM []/\O=rG A l B s.1 (decide (B<s.1)) (JJ (ZC A l) s.2) 9 10/\nx=11
theorem qx.H9{M:Mx}{A:List LB}{h3:Hp}{g x o f:SV}(b:fI):qx M [(3,h3),(6, .box [g,x,o,f, .sl (.loc 7) 0 16 (Un b).length none, .sl (.loc 8) 0 2 (bH A b).length none]),(7, .rows 16 ((Un b).map Z4)),(8, .rows 2 ((bH A b).map XX))] 9
 [(10, .rows 2 ((bH A b).map XX)),(9, .rows 16 ((Un b).map Z4)),(3,h3),(6, .box [g,x,o,f, .sl (.loc 9) 0 16 (Un b).length none, .sl (.loc 10) 0 2 (bH A b).length none])] 11:=
 qx.trans (qx.aj 7 6 4 (row:=[g,x,o,f, .sl (.loc 7) 0 16 (Un b).length none, .sl (.loc 8) 0 2 (bH A b).length none]) rfl rfl rfl (by decide)) (qx.aj 8 6 5 (row:=[g,x,o,f, .sl (.loc 9) 0 16 (Un b).length none, .sl (.loc 8) 0 2 (bH A b).length none]) rfl rfl rfl (by decide))
theorem qx.QX{M:Mx}{A:List LB}{h3 h9:Hp}{g x o f:SV}(b:fI):qx M [(9,h9),(3,h3),(6, .box [g,x,o,f, .sl (.loc 7) 0 16 (Un b).length none, .sl (.loc 8) 0 2 (bH A b).length none]),(7, .rows 16 ((Un b).map Z4)),(8, .rows 2 ((bH A b).map XX))] 10
 [(11, .rows 2 ((bH A b).map XX)),(10, .rows 16 ((Un b).map Z4)),(9,h9),(3,h3),(6, .box [g,x,o,f, .sl (.loc 10) 0 16 (Un b).length none, .sl (.loc 11) 0 2 (bH A b).length none])] 12:=
 qx.trans (qx.aj 7 6 4 (row:=[g,x,o,f, .sl (.loc 7) 0 16 (Un b).length none, .sl (.loc 8) 0 2 (bH A b).length none]) rfl rfl rfl (by decide)) (qx.aj 8 6 5 (row:=[g,x,o,f, .sl (.loc 10) 0 16 (Un b).length none, .sl (.loc 8) 0 2 (bH A b).length none]) rfl rfl rfl (by decide))
set_option maxHeartbeats 16000000 in
theorem Zil(A:List LB)(l z:List Qd)(lim:Option Nat)(B:Nat)(hB:B<=65536)(bD:A.length<=4096)(Q2:Xs l)(hl:l.length<=1048576)(hr:kC ZM l)(hnd:A.Nodup)(hmem:∀s∈ZE l,s∈A)(hpk:∀q∈l, ¬q.p.k=2)(hz:(l++z).length<=1152921504606846976):
 ∀(k n:Nat) (Ls:List (List Int)) (cl:List Int),n<=B->B<n+k->tU A cl->(∀c∈Ls,qT A c)->
 uX prog wD 39 9 [.ptr (.loc 6) 0 0 0, .sl (.loc 4) 0 1 A.length none] (rG A l B n false (JJ (ZC A l) Ls) 7 8) (goS A l z lim cl) (Dn A l B (Vn A l B k cl (n,Ls))):=by
 intro k
 induction k with
 |zero=>intro n Ls cl h1 h2;omega
 |succ k ih=>
  intro n Ls cl hn hk hc tV;have gm:=hc.cn;obtain⟨b,hb⟩:∃b,b=JJ (ZC A l) Ls:=⟨_,rfl⟩;have hw:IntKind.i64.wrap ((B:Int)-(n:Int)-1)=(B:Int)-((n+1:Nat):Int):=by rw[Z5 (by omega) (by omega)];omega
  rw[<-hb];refine uX.enter Z0 call39 func39 rfl 151 rfl rfl [] rfl ?_;intro w0 F η0 h0;conv=>whnf
  repeat'(first|rw[hw]|refine wm.mk (UN 8 rfl (by omega) (by omega) (by omega) (by omega)) ?_|refine AU ?_|refine IW ?_ ?_<;>intro h<;>try omega)<;>conv=>whnf
  all_goals try rw[hw]at*
  .have ho:B<n+1:=by omega
   rw[Wo ho];refine qx.fin (qx.H9 b) ?_;have hf:Dn A l B (n+1,Ls) (.wM []) (rG A l B (n+1) true b 9 10) 11:=⟨tV,rfl,by rw[hb,yu (show B< (n+1,Ls).1 from ho)],rfl⟩;exact wh.aA h0 [9,10] (.wM []) (rG A l B (n+1) true b 9 10) hf
  have ho:¬B<n+1:=by omega
  rw[Int.toNat_natCast,show List.replicate A.length [SV.int .i64 0]=(List.replicate A.length (0:Int)).map Zg by rw[x8];rfl,<-gm,<-ZhY,gm];refine qx.loop (qx.QX b) ?_;refine wj.jD Z0 [0,1,4] [3,6] (X:=Nat) (fun i=>i<=A.length) (fun i=>[(5, .int .i64 (i:Int))]) (fun i=>[(9, .rows 1 ((eu cl i).map Zg)),(10, .rows 16 ((Un b).map Z4)),(11, .rows 2 ((bH A b).map XX))]) 12 (fun i=>A.length-i) 0 (by omega) ?_;conv=>whnf
  refine⟨by exact w5.kA h0 [9,10,11],?_⟩;intro i hi;conv=>whnf
  by_cases hil:i<A.length
  .obtain⟨c,nW⟩:∃c:Nat,c=(cl[i]'(by omega)).toNat:=⟨_,rfl⟩;have hv:=hc.cs _ (zm (show i<cl.length by omega));have hgd:cl.getD i 0=(c:Int):=by rw[zl,z1 (by omega),Option.getD_some];omega
   have jm:c<cl.length:=by omega
   have gC:∀{m:Nat},m=i->(cl.map Zg)[m]?=some (Zg (c:Int)):=fun{m} e=>by rw[e,z6,z1 (show i<cl.length by omega),Option.map_some,show cl[i]'(by omega)=(c:Int)by omega]
   have gN:∀{m:Nat},m=c->((eu cl i).map Zg)[m]?=some (Zg _):=fun e=>by subst e;rw[z6,Ie jm];rfl
   have hsu:=ZhZ (by omega) hgd jm;have hle:((List.range i).filter fun x=>decide (cl.getD x 0=(c:Int))).length<=i:=zP (vD ..) (by simp);generalize((List.range i).filter fun x=>decide (cl.getD x 0=(c:Int))).length=N at gN hsu hle;repeat'(first|refine GET.at (gC (by omega)) ?_|refine GET.at (gN (by omega)) ?_|refine AU ?_|refine IW ?_ ?_<;>intro h<;>try omega)<;>conv=>whnf
   refine⟨i+1,by omega,by omega,?_⟩;rw[Uk (x:=c) (by omega),show IntKind.i64.wrap ((N:Int)+1)=(N:Int)+1 from Z5 (by omega) (by omega),hsu];conv=>whnf
   exact w5.kA h0 [9,10,11]
  have hie:i=cl.length:=by omega
  rw[hie];clear hil hi hie i;repeat'(first|refine IW ?_ ?_<;>intro h<;>try omega)<;>conv=>whnf
  refine wj.jD Z0 [0,1,4] [3,6] (X:=Nat) (fun i=>i<=cl.length) (fun i=>[(7, .int .i64 ((i:Int)-1)),(6, .int .i64 (QM cl i))]) (fun i=>[(9, .rows 1 ((eu cl cl.length).map Zg)),(10, .rows 16 ((Un b).map Z4)),(11, .rows 2 ((bH A b).map XX))]) 12 (fun i=>i) cl.length (by omega) ?_;conv=>whnf
  refine⟨by rw[Zi0];exact w5.kA h0 [9,10,11],?_⟩;intro i hi;conv=>whnf
  rcases i with _|j
  rotate_left
  .have hj:j<cl.length:=by omega
   have gN:∀{m:Nat},m=j->((eu cl cl.length).map Zg)[m]?=some (Zg ((qK cl (j:Int)).length:Int)):=fun e=>by subst e;rw[z6,Zkl hj];rfl
   have hst:=Zgo hj;have fh:=Ot cl (j:Int);repeat'(first|refine GET.at (gN (by omega)) ?_|refine AU ?_|refine IW ?_ ?_<;>intro h<;>try omega)<;>conv=>whnf
   all_goals
    first|rw[zh (by omega)]at hst|rw[z7 (by omega)]at hst
    refine⟨j,by omega,by omega,?_⟩;rw[hst];conv=>whnf
    exact w5.kA h0 [9,10,11]
  rw[Zgp];cases hs:Jb cl with
  |none=>
   rw[Wp ho hs];dsimp only;have hlf:qT A cl:=⟨gm,hc.cs,hs⟩;have OC:=ZdU A l z lim none cl hlf bD Q2 hl hr hnd hmem hz;have hfl:=Jt A l cl;have hx:rG A l B (n+1) false (some (ZC A l cl,cl)) 9 10=[(3, .deep false 1 (kL (qv A l))),(6, .box [.ptr (.loc 0) 0 0 0, .int .i64 ((B:Int)-((n+1:Nat):Int)), .bool false, .bool true, .sl (.loc 9) 0 16 l.length none, .sl (.loc 10) 0 2 A.length none]),(9, .rows 16 ((ZC A l cl).map Z4)),(10, .rows 2 ((qV A cl).map XX))]:=by simp only[rG,Dm,Un,bH,Dl,hfl,qD]
   have hf:∀b',b'=YQ (ZC A l) b cl->Dn A l B (n+1,Ls++ [cl]) (.wM []) (rG A l B (n+1) false b' 9 10) 11:=fun b' hb'=>⟨fun c mq=>(zW.1 mq).elim (tV c) (fun h=>by rw[zL.1 h];exact hlf),rfl,by rw[hb',hb,RI,ye (show ¬B< (n+1,Ls++ [cl]).1 from ho)],rfl⟩;repeat'(first|refine IW ?_ ?_<;>intro h<;>try omega)<;>conv=>whnf
   refine CALL.aA [0,1,2,3,4,5] (OC) ?_;rintro r O nx ⟨rfl,rfl,rfl⟩;conv=>whnf
   cases b with
   |none=>
    replace hf:=hf _ rfl
    rw[show YQ (ZC A l) none cl=some (ZC A l cl,cl)from rfl,hx]at hf;repeat'(first|refine AU ?_|refine IW ?_ ?_<;>intro h<;>try omega)<;>conv=>whnf
    all_goals first|(simp[Dl]at h;done)|skip
    exact wh.aA h0 [12,13] (.wM []) _ hf
   |some p=>
    have aT:Ls≠ []:=fun e=>by rw[e,En]at hb;cases hb
    obtain⟨c',bq,nW⟩:=Eo (ZC A l) aT;rw[<-hb]at nW;injection nW with nW;subst nW;have OD:=Jt A l c';have FU:=Iv (ZC A l cl) (ZC A l c') none none (by omega) (by omega);rw[hfl]at FU;have b8:=(BS (ZC A l cl) (ZC A l c')).1;repeat'(first|refine AU ?_|refine IW ?_ ?_<;>intro h<;>try omega)<;>conv=>whnf
    all_goals first|(simp[Dl]at h;done)|skip
    refine CALL.aA [12,10] (FU) ?_;rintro r O nx ⟨rfl,rfl,rfl⟩;conv=>whnf
    repeat'(first|refine AU ?_|refine IW ?_ ?_<;>intro h<;>try omega)<;>conv=>whnf
    .replace hf:=hf _ rfl
     rw[show YQ (ZC A l) (some (ZC A l c',c')) cl=some (ZC A l cl,cl)by unfold YQ;exact zh (show Y5 (ZC A l cl) (ZC A l c')<0 by omega),hx]at hf;exact wh.aA h0 [12,13] (.wM []) _ hf
    .replace hf:=hf _ rfl
     rw[show YQ (ZC A l) (some (ZC A l c',c')) cl=some (ZC A l c',c')by unfold YQ;exact z7 (by dsimp only;omega)]at hf;exact wh.aA h0 [10,11] (.wM []) _ hf
  |some c=>
   rw[Wq ho hs];dsimp only;have jm:=Ib hs
   have hch:∀x,∀v∈XQ cl (c:Int) x,0<=v/\v<10000:=fun x v hv=>by
    unfold XQ at hv;obtain⟨y,hy,rfl⟩:=zY.1 hv;have o8:=yh.1 hy;have h9:=hc.cs (cl.getD y 0) (by rw[zl,z1 o8];exact zm o8);split<;>omega
   repeat'(first|refine IW ?_ ?_<;>intro h<;>try omega)<;>conv=>whnf
   refine wj.jD Z0 [0,1,6] [3] (X:=Nat×Nat×List (List Int)) (fun x=>x.1<=cl.length/\x.2.1<=B+1/\n+1<=x.2.1/\(∀c∈x.2.2,qT A c)/\W0 A l B k cl (c:Int) (qK cl (c:Int)) (n+1,Ls)=W0 A l B k cl (c:Int) (sK cl (c:Int) x.1) x.2)
    (fun x=>[(10, .int .i64 (x.1:Int))]) (fun x=>[(6,Dm A B x.2.1 (decide (B<x.2.1)) (JJ (ZC A l) x.2.2) 10 11),(10, .rows 16 ((Un (JJ (ZC A l) x.2.2)).map Z4)),(11, .rows 2 ((bH A (JJ (ZC A l) x.2.2)).map XX))]) 12 (fun x=>cl.length-x.1) (0,n+1,Ls) ⟨by simp,by dsimp only;omega,by dsimp only;omega,tV,by rw[Zgq]⟩ ?_
   conv=>whnf
   refine⟨by dsimp only;rw[<-hb,ye ho];exact w5.kA h0 [9,10,11],?_⟩;rintro⟨x,n1,L1⟩ ⟨hxl,mG,hn2,tW,dA⟩;dsimp only at hxl mG hn2 tW dA⊢;rw[dA];clear dA;obtain⟨b1,nB⟩:∃b1,b1=JJ (ZC A l) L1:=⟨_,rfl⟩;rw[<-nB];conv=>whnf
   by_cases aI:x<cl.length/\¬B<n1
   rotate_left
   .have AB:W0 A l B k cl (c:Int) (sK cl (c:Int) x) (n1,L1)=(n1,L1):=by
     by_cases h5:B<n1
     exact Vo h5
     .have:x=cl.length:=by omega
      rw[this,Zi1];rfl
    have hcd:(bif decide ((x:Int)< (A.length:Int))then !decide (B<n1)else false)=false:=by
     by_cases h5:B<n1
     rw[yu h5];simp;rw[ye (show ¬(x:Int)< (A.length:Int)by omega)];rfl
    rw[AB,hcd];have hf:Dn A l B (n1,L1) (.wM []) (rG A l B n1 (decide (B<n1)) b1 9 10) 11:=⟨tW,rfl,by rw[nB],rfl⟩;repeat'(first|refine AU ?_)<;>conv=>whnf
    exact wh.aA h0 [10,11] (.wM []) (rG A l B n1 (decide (B<n1)) b1 9 10) hf
   obtain⟨hx,gp⟩:=aI
   have hcd:(bif decide ((x:Int)< (A.length:Int))then !decide (B<n1)else false)=true:=by
    rw[ye gp,yu (show(x:Int)< (A.length:Int)by omega)];rfl
   rw[hcd,ye gp];have gX:∀{m:Nat},m=x->(cl.map Zg)[m]?=some (Zg (cl.getD x 0)):=fun{m} e=>by rw[e,z6,zl,z1 hx];rfl
   have eV:=Zgr (c:=(c:Int)) hx;repeat'(first|refine GET.at (gX (by omega)) ?_|refine wm.mk (Zm 8 rfl rfl (by simp<;>omega) (by simp<;>omega) (by omega)) ?_|refine AU ?_|refine IW ?_ ?_<;>intro h<;>try omega)<;>conv=>whnf
   .rw[z7 (by omega)]at eV;refine⟨(x+1,n1,L1),⟨by dsimp only;omega,by dsimp only;omega,by dsimp only;omega,tW,by rw[eV]⟩,by dsimp only;omega,?_⟩;dsimp only;rw[<-nB,ye gp];conv=>whnf
    exact w5.kA h0 [9,10,11]
   .rw[zh (by omega)]at eV;rw[zy,show List.take 0 ([]:List (List SV))++List.take A.length (List.drop 0 (cl.map Zg))=(aY cl (c:Int) x 0).map Zg by rw[Zkm];simp[zi,gm]];refine wj.jD Z0 [0,1,6,10,11] [3,6] (X:=Nat) (fun y=>y<=cl.length) (fun y=>[(12, .int .i64 (y:Int)),(11, .sl (.loc 13) 0 1 A.length none)]) (fun y=>[(10, .rows 16 ((Un b1).map Z4)),(11, .rows 2 ((bH A b1).map XX)),(13, .rows 1 ((aY cl (c:Int) x y).map Zg))]) 14 (fun y=>cl.length-y) 0 (by omega) ?_;conv=>whnf
    refine⟨by exact w5.kA h0 [9,10,11,12,13],?_⟩;intro y hy;conv=>whnf
    by_cases o8:y<cl.length
    .have gY:∀{m:Nat},m=y->(cl.map Zg)[m]?=some (Zg (cl.getD y 0)):=fun{m} e=>by rw[e,z6,zl,z1 o8];rfl
     have gH:∀{m:Nat},m=y->((aY cl (c:Int) x y).map Zg)[m]?=some (Zg (cl.getD y 0)):=fun e=>by subst e;rw[z6,Zm4 o8];rfl
     have hvy:=hc.cs (cl.getD y 0) (by rw[zl,z1 o8];exact zm o8);by_cases IZ:y≠x/\cl.getD y 0=(c:Int)
     .have hst:=Zm3 o8 IZ;repeat'(first|refine dI.at (gY (by omega)) ?_|refine GET.at (gH (by omega)) ?_|refine AU ?_|refine IW ?_ ?_<;>intro h<;>try omega)<;>conv=>whnf
      refine⟨y+1,by omega,by omega,?_⟩;rw[Uk (x:=y) (by omega),show IntKind.i64.wrap ((c:Int)+1)=(c:Int)+1 from Z5 (by omega) (by omega),hst];conv=>whnf
      exact w5.kA h0 [9,10,11,12,13]
     .have hst:=Zkn IZ;repeat'(first|refine dI.at (gY (by omega)) ?_|refine AU ?_|refine IW ?_ ?_<;>intro h<;>try omega)<;>conv=>whnf
      refine⟨y+1,by omega,by omega,?_⟩;rw[hst];conv=>whnf
      exact w5.kA h0 [9,10,11,12,13]
    .have FE:y=cl.length:=by omega
     rw[FE,Zm2];have OE:=IV A l z lim none (XQ cl (c:Int) x) ⟨by rw[Ek,gm],bD,hl,hnd,hmem,fun v hv=>hch x v hv⟩ hpk hz;repeat'(first|refine IW ?_ ?_<;>intro h<;>try omega)<;>conv=>whnf
     refine CALL.aA [0,1,2,3,13,5] (OE) ?_;rintro r O nx ⟨F,hF,rfl,rfl,rfl⟩;obtain⟨oT,lN⟩:=hF.ok;rw[Ek]at oT lN;have hih:=ih n1 L1 F (by omega) (by omega) ⟨by rw[oT,gm],fun v hv=>by rw[oT];exact lN v hv⟩ tW;rw[<-nB]at hih;obtain⟨s2,hs2⟩:∃s2,s2=Vn A l B k F (n1,L1):=⟨_,rfl⟩;have hge:=Em (A:=A) (l:=l) (B:=B) k F (n1,L1);have hle2:=RH (A:=A) (l:=l) (B:=B) k F (n1,L1) (by dsimp only;omega);rw[<-hs2]at hih hge hle2;dsimp only at hge;conv=>whnf
     skip
     refine CALL.aA [0,1,2,3,14,5,6,10,11] (hih) ?_;rintro r O nx ⟨tX,rfl,rfl,rfl⟩;obtain⟨b2,cQ⟩:∃b2,b2=JJ (ZC A l) s2.2:=⟨_,rfl⟩;rw[<-cQ];conv=>whnf
     skip
     refine⟨(x+1,s2),⟨by dsimp only;omega,hle2,by dsimp only;omega,tX,by rw[eV,Wr gp,El hF,<-hs2]⟩,by dsimp only;omega,?_⟩;dsimp only;rw[<-cQ];conv=>whnf
     exact w5.kA h0 [9,15,16]
open _root_.Go.Proofs.Tryz
def ZgD:wP:=(Zr [(0,1),(1,1),(2,1),(4,1),(5,1),(6,1),(3,2),(8,1),(7,2),(9,1),(10,1)])
theorem ZkD(b:Int):(if 0< (if b<65536 then b else 65536)then(if b<65536 then b else 65536)else 0)=((gy b:Nat):Int):=by
 unfold gy;by_cases h1:b<65536
 .rw[zh h1];by_cases h2:0<b
  rw[zh h2];omega;rw[z7 h2];omega
 rw[z7 h1,zh (by omega)];omega
set_option maxHeartbeats 16000000 in
theorem Zbe(l z:List Qd)(lim:Option Nat)(qp:Int)(dW: -9223372036854775808<=qp/\qp<=9223372036854775807)(hl:Xs l)(ql:nC l)(hz:(l++z).length<=1152921504606846976):
 uX prog wD 14 1 [.sl (.loc 0) 0 16 l.length lim, .int .i64 qp] [] [(0, .rows 16 ((l++z).map Z4))] (KL l qp):=by
 have hv:=Z7S l z lim hl ql hz;have hnd:(ZA l).Nodup:=YZ jO (YY jO _);have hmem:∀x∈ZE l,x∈ZA l:=fun x hx=>(X4 _ _).2 hx;refine uX.enter Z0 call14 func14 rfl 45 rfl rfl [.tmp 4, .tmp 5, .tmp 6] rfl ?_;intro w0 F η0 h0;conv=>whnf
 skip
 refine CALL.aA [0] (hv) ?_;rintro r O nx ⟨rfl,rfl,rfl⟩;by_cases he:jy l=0
 rotate_left
 .conv=>whnf
  repeat'(first|refine IW ?_ ?_<;>intro h<;>try omega)<;>conv=>whnf
  exact wh.aA h0 [] (.wM [.val (.slice none 0 0), .val (.slice none 0 0), .int .i64 (jy l)]) [] (.inl ⟨he,rfl,rfl,rfl⟩)
 obtain⟨kH,hb⟩:=P0 he;obtain⟨eV,ga⟩:=Uj kH;have hnew:=Zgy l z lim hl ga hb hz;conv=>whnf
 repeat'(first|refine IW ?_ ?_<;>intro h<;>try omega)<;>conv=>whnf
 refine CALL.aA [0] (hnew) ?_;rintro r O nx ⟨rfl,rfl,rfl⟩;obtain⟨A,hA⟩:∃A,A=ZA l:=⟨_,rfl⟩;rw[<-hA]at hnd hb hmem⊢;have bF:fN A l (List.replicate A.length 0):=⟨by simp,hb,ga,hnd,hmem,fun c hc=>by rw[uL hc];omega⟩;have hpk:∀q∈l, ¬q.p.k=2:=fun q hq=>by have:=(T5 (Wv kH q hq)).2.2.2.2;omega
 have hR:=IV A l z lim none (List.replicate A.length 0) bF hpk hz;have OO:List.replicate A.length [SV.int .i64 0]=(List.replicate A.length (0:Int)).map Zg:=by rw[x8];rfl
 have gD:=IA qp;conv=>whnf
 repeat'(first|refine wm.mk (UN 8 rfl (by omega) (by omega) (by omega) (by omega)) ?_)<;>conv=>whnf
 rw[Int.toNat_natCast,OO];refine CALL.aA [1,0,3,4,6,2] (hR) ?_;rintro r O nx ⟨F,hF,rfl,rfl,rfl⟩;obtain⟨oT,lN⟩:=hF.ok;rw[yN]at oT lN;conv=>whnf
 skip
 have FX:=ZkD qp;generalize hB:gy qp=B at FX gD;have aI:=Zil A l z lim B gD hb hl ga eV hnd hmem hpk hz (B+1) 0 [] F (by omega) (by omega) ⟨oT,fun c hc=>by rw[oT];exact lN c hc⟩ (fun c hc=>by cases hc);have tL:(B:Int)-((0:Nat):Int)=(B:Int):=by omega
 rw[En]at aI;simp only[rG,Dm,tL]at aI;have dJ:XH A l B=Vn A l B (B+1) F (0,[]):=by unfold XH;rw[El hF]
 have o4:=fun h=>Ig (A:=A) (l:=l) (B:=B) h;rw[<-dJ]at aI;generalize hs2:XH A l B=s2 at aI o4;rw[FX];refine qx.call (qx.trans (qx.qC 5 4 16 rfl rfl) (qx.qC 5 5 2 rfl rfl)) ?_;refine CALL.aA [1,0,3,4,7,2,5,8,9] (aI) ?_;rintro r O nx ⟨tX,rfl,rfl,rfl⟩;by_cases P3:B<s2.1
 .have hQ:KL l qp (.wM [.val (.slice none 0 0), .val (.slice none 0 0), .int .i64 4]) [] 1:= .inr (.inl ⟨he,by rw[hB,<-hA,hs2];exact P3,rfl,rfl,rfl⟩);rw[yu P3];conv=>whnf
  repeat'(first|refine AU ?_)<;>conv=>whnf
  exact wh.aA h0 [] (.wM [.val (.slice none 0 0), .val (.slice none 0 0), .int .i64 4]) [] hQ
 .obtain⟨c,hc,FY⟩:=Eo (ZC A l) (o4 (by omega));have sP:=tX c hc;have hfl:=Jt A l c
  have hQ:KL l qp (.wM [.sl (.loc 1) 0 16 l.length none, .sl (.loc 2) 0 2 A.length none, .int .i64 0]) [(1, .rows 16 ((ZC A l c).map Z4)),(2, .rows 2 ((qV A c).map XX))] 3:=by
   refine .inr (.inr ⟨he,?_,c,?_,?_,?_,?_,rfl⟩);rw[hB,<-hA,hs2];omega;rw[<-hA];exact sP;rw[hB,<-hA,hs2];exact FY;rw[<-hA];rw[<-hA]
  rw[ye P3,FY];conv=>whnf
  repeat'(first|(show wO _ _ _ _ _ _ _;first|refine Z3 9 ZgD ?_)|refine AD ?_|refine AU ?_)<;>conv=>whnf
  rw[show Un (some (ZC A l c,c))=ZC A l c from rfl,show bH A (some (ZC A l c,c))=qV A c from rfl,hfl,qD];exact wh.aA h0 [10,11] (.wM [.sl (.loc 1) 0 16 l.length none, .sl (.loc 2) 0 2 A.length none, .int .i64 0]) [(1, .rows 16 ((ZC A l c).map Z4)),(2, .rows 2 ((qV A c).map XX))] hQ
open _root_.Go.Proofs.Tryz
theorem Zmz{l:List Qd}{n:Int}(h:kW l n=0):bZ l/\(ZA l).length<=4096:=by
 have h1:jy l=0:=by
  unfold kW at h;split at h
  exact absurd h ‹_›
  .rename_i h1;exact yE h1
 unfold jy at h1;split at h1
 omega
 .rename_i h2;exact⟨Zmx h1,u9 fun h3=>h2 ⟨h1,h3⟩⟩
theorem P4{l:List Qd}(d:bZ l):nC l:=fun q hq=>by
 obtain⟨t1,t2,t3,t4⟩:=Zmw (d.ck q hq);unfold aU at t1 t2 t3 t4;refine⟨?_,?_,?_,?_⟩<;>(unfold gW;omega)
theorem P5{l:List Qd}{n:Int}{c:List Int}(h:kW l n=0)(hL:qT (ZA l) c):bZ (ZC (ZA l) l c)/\wL (ZC (ZA l) l c)<=wL l+20*l.length:=by
 obtain⟨d,h4⟩:=Zmz h;refine⟨(Zij d h4 hL).vb,Zls (fun s=>?_) l⟩;have gm:=hL.cn
 have hb:0<=c.getD ((ZA l).idxOf s) 0/\c.getD ((ZA l).idxOf s) 0<4096:=by
  by_cases hi:(ZA l).idxOf s<c.length
  .rw[RJ hi];have:=hL.cs _ (zm hi);omega
  .rw[zl,zS (by omega)];simp
 have hd:(decDigits (c.getD ((ZA l).idxOf s) 0).toNat).length<=3+1:=Wn 3 _ (by omega);show(99::decDigits (c.getD ((ZA l).idxOf s) 0).toNat).length<=5
 rw[List.length_cons];omega
def TxQ(l:List Qd)(n most:Int):SV->w9->Nat->Prop:=fun r O nx=>
 (kW l n≠0/\r= .wM [.val (.slice none 0 0), .int .i64 (kW l n)]/\O=[]/\nx=1)\/
 (kW l n=0/\most< ((Zq (jE l n)).length:Int)/\r= .wM [.val (.slice none 0 0), .int .i64 1]/\O=[]/\nx=1)\/
 (kW l n=0/\((Zq (jE l n)).length:Int)<=most/\r= .wM [.sl (.loc 1) 0 1 (Zq (jE l n)).length none, .int .i64 0]/\O=[(1, .rows 1 ((Zq (jE l n)).map Sx.bytesRow))]/\nx=2)
theorem ZdV(l:List Qd)(n most:Int)(dW: -9223372036854775808<=n/\n<=9223372036854775807)(hl:Xs l)(ql:nC l)(hw:wL l<=67108864):
 uX prog wD 24 1 [.sl (.loc 0) 0 16 l.length none, .int .i64 n, .int .i64 most] [] [(0, .rows 16 (l.map Z4))] (TxQ l n most):=by
 have hq:=hl;unfold Xs at hq;have hC:=IB l [] none n dW hl ql (by simp;omega);rw[zO]at hC;refine uX.enter Z0 call24 func24 rfl 26 rfl rfl [.tmp 6, .tmp 7] rfl ?_;intro w0 F η0 h0;conv=>whnf
 skip
 refine CALL.aA [0] (hC) ?_;rintro r O nx hQ;rcases QU hQ with⟨h1,rfl,rfl,rfl⟩|⟨h1,c,hL,hb,hF,rfl,rfl,rfl⟩
 .conv=>whnf
  repeat'(first|refine IW ?_ ?_<;>intro h<;>try omega)<;>conv=>whnf
  exact wh.aA h0 [] (.wM [.val (.slice none 0 0), .int .i64 (kW l n)]) [] (.inl ⟨h1,rfl,rfl,rfl⟩)
 obtain⟨dF,wF⟩:=P5 h1 hL;have hfl:=Jt (ZA l) l c;have h80:=Eu l;have kH:=Tq dF;rw[<-hF]at dF wF hfl kH⊢;have hP:=Z9j (jE l n) [] none most (by unfold Xs;omega) (P4 dF) (by omega) (by simp;omega);rw[zO,hfl]at hP;conv=>whnf
 repeat'(first|refine IW ?_ ?_<;>intro h<;>try omega)<;>conv=>whnf
 refine CALL.aA [1] (hP) ?_;rintro r O nx (⟨g1,_⟩|⟨g1,g2,rfl,rfl,rfl⟩|⟨g1,g2,rfl,rfl,rfl⟩);exact(g1 kH).elim
 .conv=>whnf
  skip
  exact wh.aA h0 [] (.wM [.val (.slice none 0 0), .int .i64 1]) [] (.inr (.inl ⟨h1,g2,rfl,rfl,rfl⟩))
 .conv=>whnf
  skip
  exact wh.aA h0 [3] (.wM [.sl (.loc 1) 0 1 (Zq (jE l n)).length none, .int .i64 0]) [(1, .rows 1 ((Zq (jE l n)).map Sx.bytesRow))] (.inr (.inr ⟨h1,g2,rfl,rfl,rfl⟩))
noncomputable def Dp (l:List Qd)(n most:Int):SV:=if kW l n≠0 then .wM [.str [], .int .i64 (kW l n)]else if most< ((Zq (jE l n)).length:Int)then .wM [.str [], .int .i64 1]else .wM [.str (Zq (jE l n)), .int .i64 0]
theorem Z5l(l:List Qd)(n most:Int)(dW: -9223372036854775808<=n/\n<=9223372036854775807)(hl:Xs l)(ql:nC l)(hw:wL l<=67108864):
 uX prog wD 25 1 [.sl (.loc 0) 0 16 l.length none, .int .i64 n, .int .i64 most] [] [(0, .rows 16 (l.map Z4))] (qE 1 (Dp l n most)):=by
 have hq:=hl;unfold Xs at hq;have hC:=Zbe l [] none n dW hl ql (by simp;omega);rw[zO]at hC;have hR:Dp l n most=if kW l n≠0 then .wM [.str [], .int .i64 (kW l n)]else if most< ((Zq (jE l n)).length:Int)then .wM [.str [], .int .i64 1]else .wM [.str (Zq (jE l n)), .int .i64 0]:=rfl
 generalize Dp l n most=R at hR⊢;refine uX.enter Z0 call25 func25 rfl 26 rfl rfl [.tmp 6, .tmp 7] rfl ?_;intro w0 F η0 h0;conv=>whnf
 skip
 refine CALL.aA [0] (hC) ?_;rintro r O nx hQ;rcases QU hQ with⟨h1,rfl,rfl,rfl⟩|⟨h1,c,hL,hb,hF,rfl,rfl,rfl⟩
 .rw[zh h1]at hR;subst hR;conv=>whnf
  repeat'(first|refine IW ?_ ?_<;>intro h<;>try omega)<;>conv=>whnf
  exact wh.wC h0 rfl rfl
 rw[z7 (by omega)]at hR;obtain⟨dF,wF⟩:=P5 h1 hL;have hfl:=Jt (ZA l) l c;have h80:=Eu l;have kH:=Tq dF;rw[<-hF]at dF wF hfl kH⊢;have hP:=Z7l (jE l n) [] none most (by unfold Xs;omega) (P4 dF) (by omega) (by simp;omega);rw[zO,hfl]at hP;unfold EJ at hP;rw[z7 (by omega),<-hR]at hP;conv=>whnf
 repeat'(first|refine IW ?_ ?_<;>intro h<;>try omega)<;>conv=>whnf
 refine CALL.aA [1] (hP) ?_;rintro r O nx ⟨rfl,rfl,rfl⟩;by_cases hm:most< ((Zq (jE l n)).length:Int)
 .rw[zh hm]at hR;subst hR;conv=>whnf
  skip
  exact wh.wC h0 rfl rfl
 .rw[z7 hm]at hR;subst hR;conv=>whnf
  skip
  exact wh.wC h0 rfl rfl
theorem Z9P(m b:List UInt8)(hb:b.length<=134217728)(hm:m.length<=4294967296):uX prog wD 53 3 [.ptr (.loc 0) 0 0 0, .sl (.loc 2) 0 1 b.length none] [(0, .box (Vv (UI Vs m) (.sl (.loc 1) 0 1 (Xg m).length none) (m.length:Int))),(1, .rows 1 ((Xg m).map Sx.bytesRow))] [(2, .rows 1 (b.map Sx.bytesRow))]
 (fun r' O nx=>r'= .wM []/\O=[(0, .box (Vv (UI Vs (m++b)) (.sl (.loc 3) 0 1 (Xg (m++b)).length none) ((m++b).length:Int))),(3, .rows 1 ((Xg (m++b)).map Sx.bytesRow))]/\nx=4):=by
 have h:=SZ (UI Vs m) (Xg m) b m.length 0 b.length (by omega) (by omega) (by rw[Vu];omega) (by omega);rw[yD,SK,Z9e,zX]at h;rw[show(m++b).length=m.length+b.length by simp];exact h
theorem ZdW(m:List UInt8)(hm:m.length<=4294967296):uX prog wD 54 2 [.ptr (.loc 0) 0 0 0] [] [(0, .box (Vv (UI Vs m) (.sl (.loc 1) 0 1 (Xg m).length none) (m.length:Int))),(1, .rows 1 ((Xg m).map Sx.bytesRow))] (qE 2 (.arr 1 ((eo m).map Sx.bytesRow))):=by
 have h:=T6 (UI Vs m) (Xg m) m.length (by rw[Vu];omega) (by omega);rw[SL]at h;exact h
def P6(l:List Qd)(n:Int):SV->w9->Nat->Prop:=fun r O nx=>
 (kW l n≠0/\r= .wM [.arr 1 ((List.replicate 32 (0:UInt8)).map Sx.bytesRow), .int .i64 (kW l n)]/\O=[]/\nx=1)\/
 (kW l n=0/\(Zq (jE l n)).length<=603979776/\r= .wM [.arr 1 ((eo (Zq (jE l n))).map Sx.bytesRow), .int .i64 0]/\O=[]/\nx=1)
theorem Z9Q(l:List Qd)(n:Int)(dW: -9223372036854775808<=n/\n<=9223372036854775807)(hl:Xs l)(ql:nC l)(hw:wL l<=67108864):
 uX prog wD 26 1 [.sl (.loc 0) 0 16 l.length none, .int .i64 n] [] [(0, .rows 16 (l.map Z4))] (P6 l n):=by
 have hq:=hl;unfold Xs at hq;have hC:=IB l [] none n dW hl ql (by simp;omega);rw[zO]at hC;refine uX.enter Z0 call26 func26 rfl 45 rfl rfl [.cell 4 57, .tmp 5] rfl ?_;intro w0 F η0 h0;conv=>whnf
 skip
 refine CALL.aA [0] (hC) ?_;rintro r O nx hQ;rcases QU hQ with⟨h1,rfl,rfl,rfl⟩|⟨h1,c,hL,hb,hF,rfl,rfl,rfl⟩
 .conv=>whnf
  repeat'(first|refine AU ?_|refine IW ?_ ?_<;>intro h<;>try omega)<;>conv=>whnf
  exact wh.aA h0 [] (.wM [.arr 1 ((List.replicate 32 (0:UInt8)).map Sx.bytesRow), .int .i64 (kW l n)]) [] (.inl ⟨h1,rfl,rfl,rfl⟩)
 obtain⟨dF,wF⟩:=P5 h1 hL;have hfl:=Jt (ZA l) l c;have h80:=Eu l;rw[<-hF]at dF wF hfl⊢;have Fo:=Et (jE l n);have nV:(jE l n).take 0=[]:=rfl;have P7:P6 l n (.wM [.arr 1 ((eo (Zq (jE l n))).map Sx.bytesRow), .int .i64 0]) [] 1:= .inr ⟨h1,by omega,rfl,rfl,rfl⟩;have qW:=P4 dF;have jA:=dF.ck;generalize jE l n=f at dF wF hfl Fo nV P7 qW jA⊢;conv=>whnf
 repeat'(first|refine IW ?_ ?_<;>intro h<;>try omega)<;>conv=>whnf
 refine CALL.aA [] SY ?_;rintro r O nx ⟨rfl,rfl,rfl⟩;conv=>whnf
 skip
 refine wj.jD Z0 [4,9,26,27] [] (X:=Nat) (fun i=>i<=l.length) (fun i=>[(28, .int .i64 (i:Int))]) (fun i=>[(1, .rows 1 (List.replicate 32 [.int .u8 0])),(2, .rows 16 (f.map Z4)),(4, .box (Vv (UI Vs (Zq (f.take i))) (.sl (.loc 5) 0 1 (Xg (Zq (f.take i))).length none) ((Zq (f.take i)).length:Int))),(5, .rows 1 ((Xg (Zq (f.take i))).map Sx.bytesRow))]) 6 (fun i=>l.length-i) 0 (by omega) ?_;conv=>whnf
 refine⟨by rw[nV];exact w5.kA h0 [1,2,3,4,5],?_⟩;intro i hi;have hpre:=Ws f i;conv=>whnf
 by_cases hil:i<l.length
 .have hg:∀{m:Nat},m=i->(f.map Z4)[m]?=some (Z4 (f[i]'(by omega))):=fun{m} e=>by rw[e,z6,z1 (by omega)];rfl
  have hq:=qW _ (zm (show i<f.length by omega));have hc:=jA _ (zm (show i<f.length by omega));have hnext:=BW (l:=f) (i:=i) (by omega);generalize f[i]'(by omega)=q at hg hq hc hnext;have aq:=BV q;have Qw:=ZaD q hq;rw[zh hc]at Qw;rw[zM]at hnext;have hwr:=Z9P (Zq (f.take i)) (Ui q++ [10]) (by simp;omega) (by omega);repeat'(first|refine CALL.value (Qw) rfl rfl ?_|refine GET.at (hg (by omega)) ?_|refine AU ?_|refine IW ?_ ?_<;>intro h<;>try omega)<;>conv=>whnf
  refine CALL.aA [4,5,7] (hwr) ?_;rintro r O nx ⟨rfl,rfl,rfl⟩;conv=>whnf
  skip
  refine⟨i+1,by omega,by omega,?_⟩;rw[hnext];conv=>whnf
  exact w5.kA h0 [1,2,3,4,8]
 have hie:i=f.length:=by omega
 subst hie;rw[zX];repeat'(first|refine IW ?_ ?_<;>intro h<;>try omega)<;>conv=>whnf
 refine CALL.aA [4,5] (ZdW (Zq f) (by omega)) ?_;rintro r O nx ⟨rfl,rfl,rfl⟩;have hdl:(eo (Zq f)).length=32:=WY _;generalize eo (Zq f)=G at P7 hdl⊢;conv=>whnf
 rw[Zb _ (Zf G)];refine wm.mk ⟨rfl,rfl,rfl,by rw[zA];exact hdl,rfl⟩ ?_;conv=>whnf
 repeat'(first|refine AU ?_)<;>conv=>whnf
 exact wh.val h0 (by show(Zp (G.map Sx.bytesRow)&&true)=true;rw[Zf];rfl) P7
open _root_.Go.Proofs.Tryz
def ZcA:wP:=(Zr [(0,1),(1,1),(2,1),(4,1),(3,2),(5,1),(6,1),(7,1),(8,1),(9,1),(10,1),(12,1),(11,2),(13,3),(14,3),(15,1),(16,1),(17,1),(18,1)])
set_option maxHeartbeats 16000000 in
theorem ZdX(l:List Qd)(n most:Int)(dW: -9223372036854775808<=n/\n<=9223372036854775807)(hl:Xs l)(ql:nC l)(QF:∀q∈l,F9 q):uX prog wD 7 1 [.sl (.loc 0) 0 16 l.length none, .int .i64 n, .int .i64 most] [] [(0, .rows 16 (l.map Z4))] (qE 1 (.bool true)):=by
 have hH:=Zdm l hl QF;have hT:=ZdV l n most dW hl ql;have rH:=Z5l l n most dW hl ql;have hD:=Z9Q l n dW hl ql;have sQ:=Z5l l n 1099511627776 dW hl ql;unfold TxQ at hT;unfold P6 at hD;unfold Dp at rH sQ;generalize kW l n=E at hT rH hD sQ;generalize Zq (jE l n)=P at hT rH hD sQ;refine uX.enter Z0 call7 func7 rfl 75 rfl rfl [.tmp 6] rfl ?_;intro w0 F η0 h0;conv=>whnf
 skip
 refine CALL.aA [0] (hH) ?_;rintro r O nx ⟨b,hb,rfl,rfl,rfl⟩;cases b
 rotate_left
 .conv=>whnf
  repeat'(first|refine AU ?_)<;>conv=>whnf
  exact wh.wC h0 rfl rfl
 have hw:=hb rfl;have hT:=hT hw;have rH:=rH hw;have hD:=hD hw;have sQ:=sQ hw;conv=>whnf
 repeat'(first|refine AU ?_)<;>conv=>whnf
 refine CALL.aA [0] (hT) ?_;rintro r O nx (⟨h1,rfl,rfl,rfl⟩|⟨h1,h2,rfl,rfl,rfl⟩|⟨h1,h2,rfl,rfl,rfl⟩)
 .rw[zh h1]at rH sQ;conv=>whnf
  skip
  refine CALL.aA [0] (rH) ?_;rintro r O nx ⟨rfl,rfl,rfl⟩;conv=>whnf
  skip
  refine CALL.aA [0] (hD) ?_;rintro r O nx (⟨_,rfl,rfl,rfl⟩|⟨g1,_⟩)
  rotate_left
  exact(h1 g1).elim;conv=>whnf
  rw[Zb _ (Zf _)];refine wm.mk ⟨rfl,rfl,rfl,rfl,rfl⟩ ?_;conv=>whnf
  skip
  refine CALL.aA [0] (sQ) ?_;rintro r O nx ⟨rfl,rfl,rfl⟩;conv=>whnf
  repeat'(first|(show wO _ _ _ _ _ _ _;first|refine Z3 9 ZcA ?_)|refine wm.mk ⟨rfl,rfl,rfl⟩ ?_|refine wm.mk (Zcz _ _) ?_|refine wm.mk rfl ?_|refine IF.yes rfl ?_|refine IW ?_ ?_<;>intro h<;>try omega)<;>conv=>whnf
  all_goals exact wh.wC h0 rfl rfl
 all_goals
  have dY:P.length<=603979776->_:=fun hp=>Z9R P 0 P.length (by omega) (by omega) (by omega);rw[yD,zX]at dY;have hdl:(eo P).length=32:=WY _;have heq:(Zk (List.replicate 32 (.int .u8)) ((eo P).map Sx.bytesRow).flatten ((eo P).map Sx.bytesRow).flatten).isSome=true:=by unfold eo;rw[ZgE];rfl
  have heb:K1 (List.replicate 32 (.int .u8)) ((eo P).map Sx.bytesRow).flatten ((eo P).map Sx.bytesRow).flatten=true:=by unfold K1 eo;rw[ZgE]
  generalize eo P=G at hD dY hdl heq heb
  first
   |rw[z7 (by omega),zh (by omega)]at rH
   |rw[z7 (by omega),z7 (by omega)]at rH
  conv=>whnf
  skip
  refine CALL.aA [0] (rH) ?_;rintro r O nx ⟨rfl,rfl,rfl⟩;conv=>whnf
  skip
  refine CALL.aA [0] (hD) ?_;rintro r O nx (⟨g1,_⟩|⟨_,FG,rfl,rfl,rfl⟩);exact(g1 h1).elim;rw[z7 (by omega),z7 (by omega)]at sQ;have dY:=dY FG;conv=>whnf
  rw[Zb _ (Zf _)];refine wm.mk ⟨rfl,rfl,rfl,by rw[zA];exact hdl,rfl⟩ ?_;conv=>whnf
  skip
  refine CALL.aA [0] (sQ) ?_;rintro r O nx ⟨rfl,rfl,rfl⟩;conv=>whnf
  repeat'(first|(show wO _ _ _ _ _ _ _;first|refine Z3 9 ZcA ?_)|refine qJ.mk (fun _ _=>?_)|refine wm.mk ⟨rfl,rfl,(by rw[zA];exact hdl)⟩ ?_|refine wm.mk (Zcz _ _) ?_|refine wm.mk heq ?_|rw[Zb _ (Zf P),Ay];refine wm.mk ⟨by simp,_,rfl⟩ ?_;rw[Q7]|refine CALL.jq 2 dY rfl rfl rfl rfl (Zf _) (Zf _) ?_|refine CALL.jq 3 dY rfl rfl rfl rfl (Zf _) (Zf _) ?_|refine AU ?_|refine IW ?_ ?_<;>intro h<;>try omega)<;>conv=>whnf
  all_goals exact wh.wC h0 rfl (ze SV.bool heb)
