/- Part 35: RCan6, RCan7, RCan8, RCan9. Conditions: as each part says. -/
import Derived.Test.YtlcbipfmodcedaaGreatDoorFrm33
import Derived.Test.YtlcbipfmodcedaaGreatDoorFrm34
set_option linter.unusedVariables false
set_option linter.unusedSimpArgs false
set_option maxRecDepth 20000
set_option maxHeartbeats 8000000
namespace Go.Proofs.YtlcbipfmodcedaaGreatDoor
open Go.Sx Go.Our Go.Lib
open _root_.Go.Proofs.Tryz
def kJ(l:List Qd):Int:=if(YL l).2=0/\4096< (ZQ l).length then 2 else(YL l).2
theorem Z6S(l z:List Qd)(lim:Option Nat)(hl:JS l)(ql:tJ l)(hz:(l++z).length<=1152921504606846976):
 vS prog uf 32 1 [.sl (.loc 0) 0 16 l.length lim] [] [(0, .rows 16 ((l++z).map Z3))] (w6 1 (.int .i64 (kJ l))):=by
 have hv:=Z8x l z lim (by unfold JS at hl;omega) ql;have kP:=VI l z lim hl hz;refine vS.enter Z0 call32 func32 rfl 19 rfl rfl [.tmp 2] rfl ?_;intro w0 F η0 h0;conv=>whnf
 skip
 refine CALL.aA [0] (hv) ?_;rintro r O nx ⟨rfl,rfl,rfl⟩;conv=>whnf
 by_cases qu:(YL l).2=0
 .repeat'(first|refine AU ?_|refine IW ?_ ?_<;>intro h<;>try omega)<;>conv=>whnf
  refine CALL.aA [0] (kP) ?_;rintro r O nx ⟨rfl,rfl,rfl⟩;conv=>whnf
  repeat'(first|refine AU ?_|refine IW ?_ ?_<;>intro h<;>try omega)<;>conv=>whnf
  .refine u0.ua h0 rfl (z8 (SV.int _) ?_);unfold kJ ZQ;rw[zf ⟨qu,by omega⟩]
  .refine u0.ua h0 rfl (z8 (SV.int _) ?_);unfold kJ ZQ;rw[z7 (by rintro⟨_,h1⟩;omega)]
 .repeat'(first|refine AU ?_|refine IW ?_ ?_<;>intro h<;>try omega)<;>conv=>whnf
  refine u0.ua h0 rfl (z8 (SV.int _) ?_);unfold kJ;rw[z7 (by rintro⟨h1,_⟩;exact qu h1)]
end Go.Proofs.YtlcbipfmodcedaaGreatDoor
namespace Go.Proofs.YtlcbipfmodcedaaGreatDoor
open Go.Sx Go.Our Go.Lib
open _root_.Go.Proofs.Tryz
def Bx:uu:=(Zs [(0,1),(1,1),(2,1),(4,1),(5,1),(6,1),(8,1),(11,1),(3,2),(7,2),(9,1),(10,2),(12,0)])
def Bz:uu:=(Zs [(0,1),(1,1),(2,1),(4,1),(5,1),(6,1),(3,2),(7,2),(8,3),(9,1)])
def BA:uu:=(.take 0 1 (.take 1 1 (.take 2 1 (.take 4 1 (.take 5 1 (.take 6 1 (.take 7 1 (.take 9 1 (.take 12 1 (.take 8 2 (.take 10 1 (.take 11 2 (.fork 3 3 13 3 (Zs [(13,3),(14,0),(15,1),(16,0)]) (.fork 3 3 14 0 (Zs [(14,0),(15,1),(16,0)]) (Zs [(3,2),(15,1),(16,0)])))))))))))))))
def Rt(n:Nat)(lim:Option Nat)(nl:Nat):Hp:= .box [.sl (.loc 0) 0 16 n lim, .sl (.loc 2) 0 1 nl none, .mp (.loc 3), .sl (.loc 4) 0 1 nl none]
theorem ZeR(l z:List Qd)(lim:Option Nat)(hl:JS l)(Bn:l.length<=1048576)(e8:(ZQ l).length<=4096)(hz:(l++z).length<=1152921504606846976):
 vS prog uf 33 1 [.sl (.loc 0) 0 16 l.length lim] [] [(0, .rows 16 ((l++z).map Z3))]
 (fun r O nx=>r= .ptr (.loc 1) 0 0 0/\O=[(1,Rt l.length lim (ZQ l).length),(2, .rows 1 ((ZQ l).map Ze)),(3, .mp (qb (Xr 0 (ZQ l) (ZQ l).length))),(4, .deep false 1 (wT (uQ (ZQ l) l)))]/\nx=5):=by
 have kP:=VI l z lim hl hz;have hnd:(ZQ l).Nodup:=XB qA (X6 qA _);have hmem:∀x∈Zz l,x∈ZQ l:=fun x hx=>(JI _ _).2 hx;refine vS.enter Z0 call33 func33 rfl 89 rfl rfl [.tmp 2] rfl ?_;intro w0 F η0 h0;conv=>whnf
 skip
 refine CALL.aA [0] (kP) ?_;rintro r O nx ⟨rfl,rfl,rfl⟩;have wK:wj Our.cmpL (Zz l)=ZQ l:=rfl;rw[wK];obtain⟨A,hA⟩:∃A,A=ZQ l:=⟨_,rfl⟩;rw[<-hA]at hnd hmem e8⊢;conv=>whnf
 skip
 refine vZ.kj Z0 [0,3] [] (X:=Nat) (fun i=>i<=A.length) (fun i=>[(4, .int .i64 (i:Int))]) (fun i=>[(1, .rows 1 (A.map Ze)),(2, .mp (qb (Xr 0 A i))),(3, .box [.sl (.loc 0) 0 16 l.length lim, .sl (.loc 1) 0 1 A.length none, .mp (.loc 2), .val (.slice none 0 0)])]) 4 (fun i=>A.length-i) 0 (by omega) ?_;conv=>whnf
 refine⟨by exact vU.cA h0,?_⟩;intro i hi;conv=>whnf
 by_cases hlt:i<A.length
 .have hs:=Bc (b:=0) hlt;rw[Int.zero_add]at hs;have gA:∀{k:Nat},k=i->(A.map Ze)[k]?=some (Ze A[i]):=fun e=>by subst e;rw[z6,z1 hlt];rfl
  repeat'(first|(show uq _ _ _ _ _ _ _;first|refine Z4 5 Bx ?_|refine Z4 14 Bz ?_|refine Z4 15 BA ?_)|refine AD ?_|refine GET.at (gA (by omega)) ?_|refine u6.mk ⟨KT.ok _,JR KT _ _⟩ ?_|refine AU ?_|refine IW ?_ ?_<;>intro h<;>try omega)<;>conv=>whnf
  all_goals
   first|rw[B3,<-hs]|rw[B4,<-hs]
   refine⟨i+1,by omega,by omega,?_⟩;conv=>whnf
   exact vU.cA h0
 have hie:i=A.length:=by omega
 subst hie;clear hlt;repeat'(first|refine u6.mk (Uw 24 rfl (by omega) (by omega) (by omega) (by omega)) ?_|refine IW ?_ ?_<;>intro h<;>try omega)<;>conv=>whnf
 refine uT.loop (uT.dS 4 (wT (List.replicate A.length [])) rfl (by rw[Int.toNat_natCast];exact Rg _)) ?_;rw[Int.toNat_natCast];have l6:=G2 (b:=0) hnd;refine vZ.kj Z0 [0,3] [] (X:=Nat) (fun k=>k<=l.length) (fun k=>[(5, .int .i64 (k:Int))]) (fun k=>[(1, .rows 1 (A.map Ze)),(2, .mp (qb (Xr 0 A A.length))),(3, .box [.sl (.loc 0) 0 16 l.length lim, .sl (.loc 1) 0 1 A.length none, .mp (.loc 2), .sl (.loc 4) 0 1 A.length none]),(4, .deep false 1 (wT ((List.range A.length).map (oK A l k))))]) 5 (fun k=>l.length-k) 0 (by omega) ?_;conv=>whnf
 refine⟨by rw[R4];exact vU.cA h0,?_⟩;intro k hk;conv=>whnf
 by_cases av:k<l.length
 .obtain⟨q,hq⟩:∃q,q=l[k]:=⟨_,rfl⟩;have dr:∀s∈Zw q,s∈A:=fun s hs=>hmem s (xV.2 ⟨q,by rw[hq];exact zk av,hs⟩);have hw:IntKind.i64.wrap ((k:Int)+1)=((k+1:Nat):Int):=by rw[Z9 (by omega) (by omega)];omega
  have o9:((k+1:Nat):Int).toNat-((k:Int)).toNat=1:=by omega
  have ga:((l++z).map Z3).drop (0+((k:Int)).toNat)=([q]++(l++z).drop (k+1)).map Z3:=by
   rw[zx,Int.toNat_natCast,<-List.map_drop,zm (show k< (l++z).length by rw[zh];omega),List.getElem_append_left av,<-hq];rfl
  have G9:=VI [q] ((l++z).drop (k+1)) none (by unfold JS;simp) (by rw[zh,zD,List.length_singleton];omega);obtain⟨B,hB⟩:∃B,B=wj Our.cmpL (Zz [q]):=⟨_,rfl⟩;rw[<-hB]at G9;have hBn:B.Nodup:=by rw[hB];exact XB qA (X6 qA _)
  have Ru:∀s,s∈B<->s∈Zw q:=fun s=>by rw[hB,JI];simp[Zz]
  have hBl:B.length<=16:=by rw[hB];exact zO (Km _) (by simp[Zz];have:=Ut q;omega)
  repeat'(first|rw[hw];refine u6.mk ⟨by omega,by omega,Kc (by omega)⟩ ?_;rw[o9]|refine IW ?_ ?_<;>intro h<;>try omega)<;>conv=>whnf
  refine CALL.part rfl (by omega) (fun η1=>?_);rw[ga];refine CALL.aA [5] (G9) ?_;rintro r O nx ⟨rfl,rfl,rfl⟩;conv=>whnf
  skip
  rw[<-R3];refine vZ.kj Z0 [0,3,5,6] [] (X:=Nat) (fun j=>j<=B.length) (fun j=>[(7, .int .i64 (j:Int)),(6, .sl (.loc 6) 0 1 B.length none)]) (fun j=>[(1, .rows 1 (A.map Ze)),(2, .mp (qb (Xr 0 A A.length))),(3, .box [.sl (.loc 0) 0 16 l.length lim, .sl (.loc 1) 0 1 A.length none, .mp (.loc 2), .sl (.loc 4) 0 1 A.length none]),(4, .deep false 1 (wT (J3 A l k (B.take j)))),(6, .rows 1 (B.map Ze))]) 7 (fun j=>B.length-j) 0 (by omega) ?_;conv=>whnf
  refine⟨by exact vU.kA h0 [1,2,3,4,5,6],?_⟩;intro j hj;conv=>whnf
  by_cases BB:j<B.length
  .have bT:B[j]∈A:=dr _ ((Ru _).1 (zk BB))
   have ny:B[j]∉B.take j:=fun hm=>by
    obtain⟨m,sP,he⟩:=yM.1 hm;rw[xR]at he;rw[zq]at sP;exact absurd ((x9 hBn).1 he) (by omega)
   have hS:B.take (j+1)=B.take j++ [B[j]]:=zH BB;have gB:∀{m:Nat},m=j->(B.map Ze)[m]?=some (Ze B[j]):=fun e=>by subst e;rw[z6,z1 BB];rfl
   obtain⟨T,l7⟩:∃T,T=B.take j:=⟨_,rfl⟩;rw[<-l7]at hS ny⊢;obtain⟨t,ht⟩:∃t,t=B[j]:=⟨_,rfl⟩;rw[<-ht]at bT ny hS gB;have qc:=y7 bT;have og:A[A.idxOf t]=t:=yI qc;have bf:oJ 0 A t=((A.idxOf t:Nat):Int):=by unfold oJ;rw[zf bT];omega
   generalize A.idxOf t=n0 at qc og bf;repeat'(first|(show uq _ _ _ _ _ _ _;first|refine Z4 5 Bx ?_|refine Z4 14 Bz ?_|refine Z4 15 BA ?_)|refine wh.mk (fun _ _=>?_)|refine AD ?_|refine GET.at (gB (by omega)) ?_|refine AU ?_|refine IW ?_ ?_<;>intro h<;>try omega)<;>conv=>whnf
   refine u6.mk ⟨KT.ok _,JR KT jC _⟩ ?_;refine eu.A KT jC t (Xr 0 A A.length) (fun i v hf=>?_) (fun hf=>?_)
   rotate_left
   .have hg:=tQ (b:=0) hnd A.length t (zo _);rw[Uq hf,<-og,hnd.idxOf_getElem n0 qc,yp qc]at hg;cases hg
   have hv:=G1 hf;rw[l6,bf]at hv;subst hv;conv=>whnf
   have cm:n0< (J3 A l k T).length:=by rw[Vq];exact qc
   have HA:(J3 A l k T)[n0].length<=1048577:=by have:=R2 _ (zk cm);omega
   refine uT.drawn (uT.take 4 n0 0 rfl (UE cm) rfl) ?_;rw[show(List.map Y8 (J3 A l k T)[n0]).length=(J3 A l k T)[n0].length from zy ..];obtain⟨L,hL⟩:∃L,L=(J3 A l k T)[n0]:=⟨_,rfl⟩;rw[<-hL]at HA⊢;rw[<-og]at ny;clear dr hmem kP wK G9;repeat'(first|(show uq _ _ _ _ _ _ _;first|refine Z4 5 Bx ?_|refine Z4 14 Bz ?_|refine Z4 15 BA ?_)|refine wh.mk (fun _ _=>?_)|refine AD ?_|refine qz.mk ?_ ?_|refine GET.at (by rw[zx];exact Hj (UE cm)) ?_|refine wV.at (by rw[zx];exact Ho (UE cm)) ?_|refine u6.mk (Zn 8 rfl rfl (by simp) (by simp) (by omega)) ?_|refine AU ?_)<;>conv=>whnf
   all_goals
    rw[Bl cm (by omega) (s:=k) (by rw[<-hL];rw[zg (by simp),zg (by simp)];simp[Y8]),<-Bh hnd qc ny,og,<-hS];refine⟨j+1,by omega,by omega,?_⟩;conv=>whnf
    exact vU.kA h0 [1,2,3,4,5,6]
  .have tw:j=B.length:=by omega
   subst tw;rw[y8,R5 av (fun s _=>by rw[Ru,hq])];repeat'(first|refine IW ?_ ?_<;>intro h<;>try omega)<;>conv=>whnf
   refine⟨k+1,by omega,by omega,?_⟩;conv=>whnf
   exact vU.kA h0 [1,2,3,4]
 .have hke:k=l.length:=by omega
  subst hke;repeat'(first|refine IW ?_ ?_<;>intro h<;>try omega)<;>conv=>whnf
  exact u0.aA h0 [3,1,2,4] (.ptr (.loc 1) 0 0 0) [(1,Rt l.length lim A.length),(2, .rows 1 (A.map Ze)),(3, .mp (qb (Xr 0 A A.length))),(4, .deep false 1 (wT (uQ A l)))] ⟨rfl,rfl,rfl⟩
open _root_.Go.Proofs.Tryz
def Jr:uu:=(Zs [(0,1),(1,1),(2,1),(3,1),(4,1),(6,1),(7,1),(8,1),(9,1),(10,1),(5,3),(11,3),(12,1),(13,1)])
def Js:uu:=(Zs [(0,1),(1,1),(2,1),(3,1),(4,1),(5,1),(6,1),(7,1),(8,1),(9,1),(11,1),(12,1),(10,2),(13,2),(14,3),(15,1),(16,1),(17,1)])
theorem CALL.aI{M:Mx}{O:vX}{nx:Nat}{G:World->Prop}{f:FuncId}{args:List SV}{K:SV->vX->Nat->Prop}{r:SV}(sp:fR G M.P M.C.T f 0 args [] [] (uN r))(hG:∀J w,vR M J w O nx->G w)(hp:plain r=true)(hpa:YJ args=true)(hK:K r O nx):CALL M f args O nx K:=by
 refine CALL.Q4 [] sp hG rfl (fun i hi=>by cases hi) (ZL _ hpa).symm (ZE 0 hpa) (fun p hp=>by cases hp) (fun j hj=>by cases hj) (fun p hp=>by cases hp) ?_;rintro r' O' vW ⟨rfl,rfl,rfl⟩;rw[X8 _ hp];simpa[qa,Zb,Jc]using hK
def YR(col:Nat->Int)(vl:Nat->Value)(x:Nat):List SV:=[.int .i64 (x:Int), .int .i64 (col x), .val (vl x)]
theorem Uy(col:Nat->Int)(vl:Nat->Value)(l:List Nat):Zj (l.map (YR col vl))=true:=ZD _ (fun _=>rfl) l
instance {col:Nat->Int}{vl:Nat->Value}:dZ (YR col vl):=⟨fun _=>rfl⟩
abbrev jX(col:Nat->Int)(sg:Nat->List Qd)(a b:Nat):Int:=VH (col a) (col b) (sg a) (sg b)
def Zke(col:Nat->Int)(vl:Nat->Value)(sg:Nat->List Qd)(i n:Nat)(l:List Nat):SV->vX->Nat->Prop:=fun r O nx=>
 (n<2/\r= .sl (.loc 0) i 3 n none/\O=[]/\nx=1)\/(2<=n/\∃o:List Nat,o.Perm l/\(o.Pairwise fun a b=>jX col sg a b<=0)/\r= .sl (.loc 1) 0 3 n none/\O=[(1, .rows 3 (o.map (YR col vl)))]/\nx=2)
theorem VJ{c:Nat->Nat->Int}{l:List Nat}(h:l.length<2):l.Pairwise fun a b=>c a b<=0:=by
 match l,h with
 | [],_=>exact .nil
 | [x],_=>simp
theorem Za2(col:Nat->Int)(vl:Nat->Value)(sg:Nat->List Qd)(kL:∀x,(sg x).length<=1152921504606846976)(kg:∀x,0<=col x/\col x<1048576)(hpre:Pre (jX col sg))(L:List Nat)(hL:L.length<=1048576):
 ∀(k n i:Nat) (hk:n<=k) (hi:i+n<=L.length),fR (fun w=> ∀x∈L,∃en,uL w (vl x) 16 ((sg x).map Z3) en) prog uf 67 1 [.sl (.loc 0) i 3 n none] [] [(0, .rows 3 (L.map (YR col vl)))] (Zke col vl sg i n ((L.drop i).take n)):=by
 intro k
 induction k with
 |zero=>
  intro n i hk hi;refine vS.gl Z0 call67 func67 rfl 65 rfl rfl [.tmp 2] rfl ?_;intro w0 F η0 h0 hG hF;conv=>whnf
  repeat'(first|refine IW ?_ ?_<;>intro h<;>try omega)<;>conv=>whnf
  exact u0.aA h0 [] (.sl (.loc 0) i 3 n none) [] (.inl ⟨by omega,rfl,rfl,rfl⟩)
 |succ k ih=>
  intro n i hk hi;by_cases hn2:n<2
  .refine vS.gl Z0 call67 func67 rfl 65 rfl rfl [.tmp 2] rfl ?_;intro w0 F η0 h0 hG hF;conv=>whnf
   repeat'(first|refine IW ?_ ?_<;>intro h<;>try omega)<;>conv=>whnf
   exact u0.aA h0 [] (.sl (.loc 0) i 3 n none) [] (.inl ⟨by omega,rfl,rfl,rfl⟩)
  have h1:=ih (n/2) i (by omega) (by omega);have h2:=ih (n-n/2) (i+n/2) (by omega) (by omega);have hd:(n:Int).tdiv 2=((n/2:Nat):Int):=by rw[xe (by omega)];omega
  have Bv:IntKind.i64.wrap ((n:Int).tdiv 2)=((n/2:Nat):Int):=by rw[hd,Z9 (by omega) (by omega)]
  have gN:∀{S:List Nat} {p m:Nat} (h:p<S.length),m=0+p->(S.map (YR col vl))[m]?=some (YR col vl S[p]):=fun h e=>by subst e;rw[z6,z1 (by omega)];simp
  have gO:∀{o k p m:Nat} (h:p< ((L.drop o).take k).length),m=o+p->(L.map (YR col vl))[m]?=some (YR col vl ((L.drop o).take k)[p]):=fun{o k p m} h e=>by
   subst e;have h1:=h;rw[zq,zD]at h1;rw[z6,z1 (by omega),xR,List.getElem_drop];rfl
  have oo:∀{S:List Nat} {o k:Nat},S.Perm ((L.drop o).take k)->∀x∈S,x∈L:=fun h x hx=>vr (List.mem_of_mem_take (h.mem_iff.1 hx))
  have BD:∀(SA SB:List Nat),SA.Perm ((L.drop i).take (n/2))->SB.Perm ((L.drop (i+n/2)).take (n-n/2))->(kC (jX col sg) SA SB).Perm ((L.drop i).take n):=fun SA SB h1 h2=>by
   refine(Q6 _ _ _ (zo _)).trans ((h1.append h2).trans ?_);rw[show(L.drop i).take (n/2)=((L.drop i).take n).take (n/2)by rw[xT,x7 (by omega)],show(L.drop (i+n/2)).take (n-n/2)=((L.drop i).take n).drop (n/2)by rw[List.drop_take,yB],yW]
  refine vS.gl Z0 call67 func67 rfl 65 rfl rfl [.tmp 2] rfl ?_;intro w0 F η0 h0 hG hF;conv=>whnf
  have hno:∀k, ¬F k:=fun k h=>by rw[hF]at h;simp[Ym,u5]at h
  have Q9:∀x∈L,∀{w':World},qW w0 w' F->∃en,uL w' (vl x) 16 ((sg x).map Z3) en:=fun x hx w' hf=>let⟨en,h⟩:=hG x hx;⟨en,h.now hf hno⟩
  repeat'(first|(refine wh.r5 (fun η2 w2 H2=>?_);(have Gg:=fun x hx=>Q9 x hx H2.fr))|(show uq _ _ _ _ _ _ _;first|refine Z4 3 Jr ?_|refine Z4 6 Js ?_)|refine AD ?_|rw[Bv]|rw[Int.toNat_natCast]|refine AU ?_|refine IW ?_ ?_<;>intro h<;>try omega)<;>conv=>whnf
  refine CALL.Q4 [0] h1 (fun η' w' H' x hx=>let⟨en,h⟩:=Gg x hx;⟨en,h.now H'.fr (fun k h=>h)⟩) rfl (fun i hi=>by simp at hi;omega) rfl rfl (fun p hp=>by cases hp) (fun j hj=>by cases hj) (fun p hp=>by
   obtain rfl:=zI.1 hp
   exact⟨by show 0<1;omega,by rw[Zv _ (h:= .rows _ _) (Uy col vl L)];rfl,Yz _ (h:= .rows _ _) (Uy col vl L),by simp[Zb]⟩) ?_
  rintro r O nx (⟨g1,rfl,rfl,rfl⟩|⟨g1,oA,pA,sA,rfl,rfl,rfl⟩)
  .conv=>whnf
   repeat'(first|(refine wh.r5 (fun η2 w2 H2=>?_);(have Gg:=fun x hx=>Q9 x hx H2.fr)))<;>conv=>whnf
   refine CALL.Q4 [0] h2 (fun η' w' H' x hx=>let⟨en,h⟩:=Gg x hx;⟨en,h.now H'.fr (fun k h=>h)⟩) rfl (fun i hi=>by simp at hi;omega) rfl rfl (fun p hp=>by cases hp) (fun j hj=>by cases hj) (fun p hp=>by
    obtain rfl:=zI.1 hp
    exact⟨by show 0<1;omega,by rw[Zv _ (h:= .rows _ _) (Uy col vl L)];rfl,Yz _ (h:= .rows _ _) (Uy col vl L),by simp[Zb]⟩) ?_
   rintro r O nx (⟨g2,rfl,rfl,rfl⟩|⟨g2,oB,pB,sB,rfl,rfl,rfl⟩)
   .conv=>whnf
    skip
    obtain⟨SA,rH⟩:∃S,S=(L.drop (i)).take (n/2):=⟨_,rfl⟩;have pA:SA.Perm ((L.drop (i)).take (n/2)):=rH▸vq _;have l9:SA.length=n/2:=by rw[pA.length_eq,zq,zD];omega
    have sA:SA.Pairwise fun a b=>jX col sg a b<=0:=VJ (by omega);have gA:∀{p m:Nat} (h:p<SA.length),m=i+p->(L.map (YR col vl))[m]?=some (YR col vl SA[p]):=by subst rH;exact fun h e=>gO h e
    obtain⟨SB,tX⟩:∃S,S=(L.drop (i+n/2)).take (n-n/2):=⟨_,rfl⟩;have pB:SB.Perm ((L.drop (i+n/2)).take (n-n/2)):=tX▸vq _;have lg:SB.length=n-n/2:=by rw[pB.length_eq,zq,zD];omega
    have sB:SB.Pairwise fun a b=>jX col sg a b<=0:=VJ (by omega);have gB:∀{p m:Nat} (h:p<SB.length),m=i+n/2+p->(L.map (YR col vl))[m]?=some (YR col vl SB[p]):=by subst tX;exact fun h e=>gO h e
    have nD:=oo pA;have nE:=oo pB;have hT:([]:List Nat)++kC (jX col sg) (SA.drop 0) (SB.drop 0)=kC (jX col sg) SA SB:=rfl;have nF:=U6 hpre _ SA SB (zo _) sA sB;have nG:=BD SA SB pA pB;generalize kC (jX col sg) SA SB=T at hT nF nG;have HD:T.length=n:=by rw[nG.length_eq,zq,zD];omega
    refine vZ.nil 5 3 rfl ?_
    refine vZ.kj Z0 [] [] (X:=List Nat×Nat×Nat) (fun x=>x.2.1<=n/2/\x.2.2<=n-n/2/\x.1.length=x.2.1+x.2.2/\x.1++kC (jX col sg) (SA.drop x.2.1) (SB.drop x.2.2)=T)
     (fun x=>[(3, .sl (.loc 0) (i+x.2.1) 3 (n/2-x.2.1) none),(4, .sl (.loc 0) (i+n/2+x.2.2) 3 (n-n/2-x.2.2) none),(5, .sl (.loc 1) 0 3 x.1.length none)]) (fun x=>[(1, .rows 3 (x.1.map (YR col vl)))]) 2 (fun x=>(n/2-x.2.1)+(n-n/2-x.2.2)) ([],0,0) ⟨by simp,by simp,by simp,hT⟩ ?_
    conv=>whnf
    refine⟨by exact vU.kA h0 [1],?_⟩;rintro⟨out,p,q⟩ ⟨hp,hq,ho,hr⟩;dsimp only at hp hq ho hr⊢;have kB:out.length<=2097152:=by omega
    conv=>whnf
    by_cases bM:p<n/2
    .have gA:=fun{m:Nat}=>gA (p:=p) (m:=m) (by omega);by_cases nB:q<n-n/2
     .have gB:=fun{m:Nat}=>gB (p:=q) (m:=m) (by omega);repeat'(first|(refine wh.r5 (fun η3 w3 H3=>?_);(have rI:=fun x hx=>Q9 x hx H3.fr))|(show uq _ _ _ _ _ _ _;first|refine Z4 3 Jr ?_|refine Z4 6 Js ?_)|refine CALL.aI (JU (SA[p]'(by omega)) (SB[q]'(by omega)) (col (SA[p]'(by omega))) (col (SB[q]'(by omega))) (vl (SA[p]'(by omega))) (vl (SB[q]'(by omega))) (sg (SA[p]'(by omega))) (sg (SB[q]'(by omega))) (kL _) (kL _) (kg _) (kg _)) (fun η' w' H'=>⟨(let⟨en,h⟩:=rI _ (nD _ (zk (by omega)));⟨en,h.now H'.fr (fun k h=>h)⟩),(let⟨en,h⟩:=rI _ (nE _ (zk (by omega)));⟨en,h.now H'.fr (fun k h=>h)⟩)⟩) rfl rfl ?_|refine u6.mk (Zn 40 rfl rfl rfl (by simp) (by omega)) ?_|refine GET.at (gA (by omega)) ?_|refine GET.at (gB (by omega)) ?_|refine u6.mk ⟨by omega,by omega⟩ ?_|refine AU ?_|refine IW ?_ ?_<;>intro h<;>try omega)<;>conv=>whnf
      .refine⟨(out++ [SA[p]'(by omega)],p+1,q),⟨by dsimp only;omega,by dsimp only;omega,by dsimp only;rw[zh,List.length_singleton];omega,Xw (p:=p) (q:=q) (by omega) (.inr ⟨by omega,by unfold jX;assumption⟩) hr⟩,by dsimp only;omega,?_⟩;dsimp only;conv=>whnf
       exact vU.kA h0 [3]
      .refine⟨(out++ [SB[q]'(by omega)],p,q+1),⟨by dsimp only;omega,by dsimp only;omega,by dsimp only;rw[zh,List.length_singleton];omega,Xx (p:=p) (q:=q) (by omega) (.inr ⟨by omega,by unfold jX;omega⟩) hr⟩,by dsimp only;omega,?_⟩;dsimp only;conv=>whnf
       exact vU.kA h0 [3]
     .repeat'(first|(show uq _ _ _ _ _ _ _;first|refine Z4 3 Jr ?_|refine Z4 6 Js ?_)|refine u6.mk (Zn 40 rfl rfl rfl (by simp) (by omega)) ?_|refine GET.at (gA (by omega)) ?_|refine u6.mk ⟨by omega,by omega⟩ ?_|refine AU ?_|refine IW ?_ ?_<;>intro h<;>try omega)<;>conv=>whnf
      refine⟨(out++ [SA[p]'(by omega)],p+1,q),⟨by dsimp only;omega,by dsimp only;omega,by dsimp only;rw[zh,List.length_singleton];omega,Xw (p:=p) (q:=q) (by omega) (.inl (by omega)) hr⟩,by dsimp only;omega,?_⟩;dsimp only;conv=>whnf
      exact vU.kA h0 [3]
    .by_cases nB:q<n-n/2
     .have gB:=fun{m:Nat}=>gB (p:=q) (m:=m) (by omega);repeat'(first|(show uq _ _ _ _ _ _ _;first|refine Z4 3 Jr ?_|refine Z4 6 Js ?_)|refine u6.mk (Zn 40 rfl rfl rfl (by simp) (by omega)) ?_|refine GET.at (gB (by omega)) ?_|refine u6.mk ⟨by omega,by omega⟩ ?_|refine AU ?_|refine IW ?_ ?_<;>intro h<;>try omega)<;>conv=>whnf
      refine⟨(out++ [SB[q]'(by omega)],p,q+1),⟨by dsimp only;omega,by dsimp only;omega,by dsimp only;rw[zh,List.length_singleton];omega,Xx (p:=p) (q:=q) (by omega) (.inl (by omega)) hr⟩,by dsimp only;omega,?_⟩;dsimp only;conv=>whnf
      exact vU.kA h0 [3]
     .have gD:=Q7 (by omega) (by omega) hr;have bq:out.length=n:=by omega
      repeat'(first|refine IW ?_ ?_<;>intro h<;>try omega)<;>conv=>whnf
      rw[bq,gD];exact u0.aA h0 [1] (.sl (.loc 1) 0 3 n none) [(1, .rows 3 (T.map (YR col vl)))] (.inr ⟨by omega,T,nG,nF,rfl,rfl,rfl⟩)
   .conv=>whnf
    skip
    obtain⟨SA,rH⟩:∃S,S=(L.drop (i)).take (n/2):=⟨_,rfl⟩;have pA:SA.Perm ((L.drop (i)).take (n/2)):=rH▸vq _;have l9:SA.length=n/2:=by rw[pA.length_eq,zq,zD];omega
    have sA:SA.Pairwise fun a b=>jX col sg a b<=0:=VJ (by omega);have gA:∀{p m:Nat} (h:p<SA.length),m=i+p->(L.map (YR col vl))[m]?=some (YR col vl SA[p]):=by subst rH;exact fun h e=>gO h e
    obtain⟨SB,tX⟩:∃S,S=oB:=⟨_,rfl⟩;rw[<-tX]at pB sB⊢;have lg:SB.length=n-n/2:=by rw[pB.length_eq,zq,zD];omega
    have gB:∀{p m:Nat} (h:p<SB.length),m=0+p->(SB.map (YR col vl))[m]?=some (YR col vl SB[p]):=fun h e=>gN h e;have nD:=oo pA;have nE:=oo pB;have hT:([]:List Nat)++kC (jX col sg) (SA.drop 0) (SB.drop 0)=kC (jX col sg) SA SB:=rfl;have nF:=U6 hpre _ SA SB (zo _) sA sB;have nG:=BD SA SB pA pB;generalize kC (jX col sg) SA SB=T at hT nF nG;have HD:T.length=n:=by rw[nG.length_eq,zq,zD];omega
    refine vZ.nil 5 3 rfl ?_
    refine vZ.kj Z0 [] [] (X:=List Nat×Nat×Nat) (fun x=>x.2.1<=n/2/\x.2.2<=n-n/2/\x.1.length=x.2.1+x.2.2/\x.1++kC (jX col sg) (SA.drop x.2.1) (SB.drop x.2.2)=T)
     (fun x=>[(3, .sl (.loc 0) (i+x.2.1) 3 (n/2-x.2.1) none),(4, .sl (.loc 1) (0+x.2.2) 3 (n-n/2-x.2.2) none),(5, .sl (.loc 2) 0 3 x.1.length none)]) (fun x=>[(1, .rows 3 (SB.map (YR col vl))),(2, .rows 3 (x.1.map (YR col vl)))]) 3 (fun x=>(n/2-x.2.1)+(n-n/2-x.2.2)) ([],0,0) ⟨by simp,by simp,by simp,hT⟩ ?_
    conv=>whnf
    refine⟨by exact vU.kA h0 [1,2],?_⟩;rintro⟨out,p,q⟩ ⟨hp,hq,ho,hr⟩;dsimp only at hp hq ho hr⊢;have kB:out.length<=2097152:=by omega
    conv=>whnf
    by_cases bM:p<n/2
    .have gA:=fun{m:Nat}=>gA (p:=p) (m:=m) (by omega);by_cases nB:q<n-n/2
     .have gB:=fun{m:Nat}=>gB (p:=q) (m:=m) (by omega);repeat'(first|(refine wh.r5 (fun η3 w3 H3=>?_);(have rI:=fun x hx=>Q9 x hx H3.fr))|(show uq _ _ _ _ _ _ _;first|refine Z4 3 Jr ?_|refine Z4 6 Js ?_)|refine CALL.aI (JU (SA[p]'(by omega)) (SB[q]'(by omega)) (col (SA[p]'(by omega))) (col (SB[q]'(by omega))) (vl (SA[p]'(by omega))) (vl (SB[q]'(by omega))) (sg (SA[p]'(by omega))) (sg (SB[q]'(by omega))) (kL _) (kL _) (kg _) (kg _)) (fun η' w' H'=>⟨(let⟨en,h⟩:=rI _ (nD _ (zk (by omega)));⟨en,h.now H'.fr (fun k h=>h)⟩),(let⟨en,h⟩:=rI _ (nE _ (zk (by omega)));⟨en,h.now H'.fr (fun k h=>h)⟩)⟩) rfl rfl ?_|refine u6.mk (Zn 40 rfl rfl rfl (by simp) (by omega)) ?_|refine GET.at (gA (by omega)) ?_|refine GET.at (gB (by omega)) ?_|refine u6.mk ⟨by omega,by omega⟩ ?_|refine AU ?_|refine IW ?_ ?_<;>intro h<;>try omega)<;>conv=>whnf
      .refine⟨(out++ [SA[p]'(by omega)],p+1,q),⟨by dsimp only;omega,by dsimp only;omega,by dsimp only;rw[zh,List.length_singleton];omega,Xw (p:=p) (q:=q) (by omega) (.inr ⟨by omega,by unfold jX;assumption⟩) hr⟩,by dsimp only;omega,?_⟩;dsimp only;conv=>whnf
       exact vU.kA h0 [1,4]
      .refine⟨(out++ [SB[q]'(by omega)],p,q+1),⟨by dsimp only;omega,by dsimp only;omega,by dsimp only;rw[zh,List.length_singleton];omega,Xx (p:=p) (q:=q) (by omega) (.inr ⟨by omega,by unfold jX;omega⟩) hr⟩,by dsimp only;omega,?_⟩;dsimp only;conv=>whnf
       exact vU.kA h0 [1,4]
     .repeat'(first|(show uq _ _ _ _ _ _ _;first|refine Z4 3 Jr ?_|refine Z4 6 Js ?_)|refine u6.mk (Zn 40 rfl rfl rfl (by simp) (by omega)) ?_|refine GET.at (gA (by omega)) ?_|refine u6.mk ⟨by omega,by omega⟩ ?_|refine AU ?_|refine IW ?_ ?_<;>intro h<;>try omega)<;>conv=>whnf
      refine⟨(out++ [SA[p]'(by omega)],p+1,q),⟨by dsimp only;omega,by dsimp only;omega,by dsimp only;rw[zh,List.length_singleton];omega,Xw (p:=p) (q:=q) (by omega) (.inl (by omega)) hr⟩,by dsimp only;omega,?_⟩;dsimp only;conv=>whnf
      exact vU.kA h0 [1,4]
    .by_cases nB:q<n-n/2
     .have gB:=fun{m:Nat}=>gB (p:=q) (m:=m) (by omega);repeat'(first|(show uq _ _ _ _ _ _ _;first|refine Z4 3 Jr ?_|refine Z4 6 Js ?_)|refine u6.mk (Zn 40 rfl rfl rfl (by simp) (by omega)) ?_|refine GET.at (gB (by omega)) ?_|refine u6.mk ⟨by omega,by omega⟩ ?_|refine AU ?_|refine IW ?_ ?_<;>intro h<;>try omega)<;>conv=>whnf
      refine⟨(out++ [SB[q]'(by omega)],p,q+1),⟨by dsimp only;omega,by dsimp only;omega,by dsimp only;rw[zh,List.length_singleton];omega,Xx (p:=p) (q:=q) (by omega) (.inl (by omega)) hr⟩,by dsimp only;omega,?_⟩;dsimp only;conv=>whnf
      exact vU.kA h0 [1,4]
     .have gD:=Q7 (by omega) (by omega) hr;have bq:out.length=n:=by omega
      repeat'(first|refine IW ?_ ?_<;>intro h<;>try omega)<;>conv=>whnf
      rw[bq,gD];exact u0.aA h0 [2] (.sl (.loc 1) 0 3 n none) [(1, .rows 3 (T.map (YR col vl)))] (.inr ⟨by omega,T,nG,nF,rfl,rfl,rfl⟩)
  .conv=>whnf
   repeat'(first|(refine wh.r5 (fun η2 w2 H2=>?_);(have Gg:=fun x hx=>Q9 x hx H2.fr)))<;>conv=>whnf
   refine CALL.Q4 [0] h2 (fun η' w' H' x hx=>let⟨en,h⟩:=Gg x hx;⟨en,h.now H'.fr (fun k h=>h)⟩) rfl (fun i hi=>by simp at hi;omega) rfl rfl (fun p hp=>by cases hp) (fun j hj=>by cases hj) (fun p hp=>by
    obtain rfl:=zI.1 hp
    exact⟨by show 0<1;omega,by rw[Zv _ (h:= .rows _ _) (Uy col vl L)];rfl,Yz _ (h:= .rows _ _) (Uy col vl L),by simp[Zb]⟩) ?_
   rintro r O nx (⟨g2,rfl,rfl,rfl⟩|⟨g2,oB,pB,sB,rfl,rfl,rfl⟩);exfalso;omega
   .conv=>whnf
    skip
    obtain⟨SA,rH⟩:∃S,S=oA:=⟨_,rfl⟩;rw[<-rH]at pA sA⊢;have l9:SA.length=n/2:=by rw[pA.length_eq,zq,zD];omega
    have gA:∀{p m:Nat} (h:p<SA.length),m=0+p->(SA.map (YR col vl))[m]?=some (YR col vl SA[p]):=fun h e=>gN h e;obtain⟨SB,tX⟩:∃S,S=oB:=⟨_,rfl⟩;rw[<-tX]at pB sB⊢;have lg:SB.length=n-n/2:=by rw[pB.length_eq,zq,zD];omega
    have gB:∀{p m:Nat} (h:p<SB.length),m=0+p->(SB.map (YR col vl))[m]?=some (YR col vl SB[p]):=fun h e=>gN h e;have nD:=oo pA;have nE:=oo pB;have hT:([]:List Nat)++kC (jX col sg) (SA.drop 0) (SB.drop 0)=kC (jX col sg) SA SB:=rfl;have nF:=U6 hpre _ SA SB (zo _) sA sB;have nG:=BD SA SB pA pB;generalize kC (jX col sg) SA SB=T at hT nF nG;have HD:T.length=n:=by rw[nG.length_eq,zq,zD];omega
    refine vZ.nil 5 3 rfl ?_
    refine vZ.kj Z0 [] [] (X:=List Nat×Nat×Nat) (fun x=>x.2.1<=n/2/\x.2.2<=n-n/2/\x.1.length=x.2.1+x.2.2/\x.1++kC (jX col sg) (SA.drop x.2.1) (SB.drop x.2.2)=T)
     (fun x=>[(3, .sl (.loc 1) (0+x.2.1) 3 (n/2-x.2.1) none),(4, .sl (.loc 2) (0+x.2.2) 3 (n-n/2-x.2.2) none),(5, .sl (.loc 3) 0 3 x.1.length none)]) (fun x=>[(1, .rows 3 (SA.map (YR col vl))),(2, .rows 3 (SB.map (YR col vl))),(3, .rows 3 (x.1.map (YR col vl)))]) 4 (fun x=>(n/2-x.2.1)+(n-n/2-x.2.2)) ([],0,0) ⟨by simp,by simp,by simp,hT⟩ ?_
    conv=>whnf
    refine⟨by exact vU.kA h0 [1,2,3],?_⟩;rintro⟨out,p,q⟩ ⟨hp,hq,ho,hr⟩;dsimp only at hp hq ho hr⊢;have kB:out.length<=2097152:=by omega
    conv=>whnf
    by_cases bM:p<n/2
    .have gA:=fun{m:Nat}=>gA (p:=p) (m:=m) (by omega);by_cases nB:q<n-n/2
     .have gB:=fun{m:Nat}=>gB (p:=q) (m:=m) (by omega);repeat'(first|(refine wh.r5 (fun η3 w3 H3=>?_);(have rI:=fun x hx=>Q9 x hx H3.fr))|(show uq _ _ _ _ _ _ _;first|refine Z4 3 Jr ?_|refine Z4 6 Js ?_)|refine CALL.aI (JU (SA[p]'(by omega)) (SB[q]'(by omega)) (col (SA[p]'(by omega))) (col (SB[q]'(by omega))) (vl (SA[p]'(by omega))) (vl (SB[q]'(by omega))) (sg (SA[p]'(by omega))) (sg (SB[q]'(by omega))) (kL _) (kL _) (kg _) (kg _)) (fun η' w' H'=>⟨(let⟨en,h⟩:=rI _ (nD _ (zk (by omega)));⟨en,h.now H'.fr (fun k h=>h)⟩),(let⟨en,h⟩:=rI _ (nE _ (zk (by omega)));⟨en,h.now H'.fr (fun k h=>h)⟩)⟩) rfl rfl ?_|refine u6.mk (Zn 40 rfl rfl rfl (by simp) (by omega)) ?_|refine GET.at (gA (by omega)) ?_|refine GET.at (gB (by omega)) ?_|refine u6.mk ⟨by omega,by omega⟩ ?_|refine AU ?_|refine IW ?_ ?_<;>intro h<;>try omega)<;>conv=>whnf
      .refine⟨(out++ [SA[p]'(by omega)],p+1,q),⟨by dsimp only;omega,by dsimp only;omega,by dsimp only;rw[zh,List.length_singleton];omega,Xw (p:=p) (q:=q) (by omega) (.inr ⟨by omega,by unfold jX;assumption⟩) hr⟩,by dsimp only;omega,?_⟩;dsimp only;conv=>whnf
       exact vU.kA h0 [1,2,5]
      .refine⟨(out++ [SB[q]'(by omega)],p,q+1),⟨by dsimp only;omega,by dsimp only;omega,by dsimp only;rw[zh,List.length_singleton];omega,Xx (p:=p) (q:=q) (by omega) (.inr ⟨by omega,by unfold jX;omega⟩) hr⟩,by dsimp only;omega,?_⟩;dsimp only;conv=>whnf
       exact vU.kA h0 [1,2,5]
     .repeat'(first|(show uq _ _ _ _ _ _ _;first|refine Z4 3 Jr ?_|refine Z4 6 Js ?_)|refine u6.mk (Zn 40 rfl rfl rfl (by simp) (by omega)) ?_|refine GET.at (gA (by omega)) ?_|refine u6.mk ⟨by omega,by omega⟩ ?_|refine AU ?_|refine IW ?_ ?_<;>intro h<;>try omega)<;>conv=>whnf
      refine⟨(out++ [SA[p]'(by omega)],p+1,q),⟨by dsimp only;omega,by dsimp only;omega,by dsimp only;rw[zh,List.length_singleton];omega,Xw (p:=p) (q:=q) (by omega) (.inl (by omega)) hr⟩,by dsimp only;omega,?_⟩;dsimp only;conv=>whnf
      exact vU.kA h0 [1,2,5]
    .by_cases nB:q<n-n/2
     .have gB:=fun{m:Nat}=>gB (p:=q) (m:=m) (by omega);repeat'(first|(show uq _ _ _ _ _ _ _;first|refine Z4 3 Jr ?_|refine Z4 6 Js ?_)|refine u6.mk (Zn 40 rfl rfl rfl (by simp) (by omega)) ?_|refine GET.at (gB (by omega)) ?_|refine u6.mk ⟨by omega,by omega⟩ ?_|refine AU ?_|refine IW ?_ ?_<;>intro h<;>try omega)<;>conv=>whnf
      refine⟨(out++ [SB[q]'(by omega)],p,q+1),⟨by dsimp only;omega,by dsimp only;omega,by dsimp only;rw[zh,List.length_singleton];omega,Xx (p:=p) (q:=q) (by omega) (.inl (by omega)) hr⟩,by dsimp only;omega,?_⟩;dsimp only;conv=>whnf
      exact vU.kA h0 [1,2,5]
     .have gD:=Q7 (by omega) (by omega) hr;have bq:out.length=n:=by omega
      repeat'(first|refine IW ?_ ?_<;>intro h<;>try omega)<;>conv=>whnf
      rw[bq,gD];exact u0.aA h0 [3] (.sl (.loc 1) 0 3 n none) [(1, .rows 3 (T.map (YR col vl)))] (.inr ⟨by omega,T,nG,nF,rfl,rfl,rfl⟩)
open _root_.Go.Proofs.Tryz
def oL(col:Nat->Int)(sg:Nat->List Qd)(x:Nat):List DC:=[.v (.int .i64 (x:Int)), .v (.int .i64 (col x)), .uA 16 ((sg x).map Z3)]
def kY(col:Nat->Int)(sg:Nat->List Qd)(l:List Nat):List (List DC):=l.map (oL col sg)
theorem ZeS{J:Env}{w:World}{i n:Nat}{col:Nat->Int}{sg:Nat->List Qd}{R:List (List SV)}(h:gM J w i 3 (kY col sg (List.range n)) R):∃vl:Nat->Value,R=(List.range n).map (YR col vl)/\∀x,x<n->uV J w (vl x) 16 ((sg x).map Z3):=by
 have hD:∀x,x<n->(kY col sg (List.range n))[x]?=some (oL col sg x):=fun x hx=>by unfold kY;rw[z6,yG hx];rfl
 have hx:∀x,x<n->∃v,R[x]?=some [.int .i64 (x:Int), .int .i64 (col x), .val v]/\uV J w v 16 ((sg x).map Z3):=fun x hx=>by
  obtain⟨r1,a1,a2⟩:=h.cv x 0 _ _ (hD x hx) rfl;obtain⟨r2,b1,b2⟩:=h.cv x 1 _ _ (hD x hx) rfl;obtain⟨r3,v,c1,c2,c3⟩:=h.ck x 2 _ _ _ (hD x hx) rfl;rw[a1]at b1 c1;injection b1 with b1;injection c1 with c1;subst b1 c1
  have hl:=h.lens x _ _ (hD x hx) a1;refine⟨v,?_,c3⟩;rw[a1]
  match r1,hl,a2,b2,c2 with
  | [p,q,r],_,a2,b2,c2=>
    simp at a2 b2 c2;rw[a2,b2,c2]
 refine⟨fun x=>match R[x]? with|some [_,_, .val v]=>v|_=>undef,?_,fun x dw=>?_⟩
 .apply yu;intro x;by_cases dw:x<n
  .obtain⟨v,h1,_⟩:=hx x dw;rw[z6,yG dw,h1];simp only[Option.map_some,YR,h1]
  rw[zW (by rw[h.len];simp[kY];omega),zW (by simp;omega)]
 .obtain⟨v,h1,h2⟩:=hx x dw;simp only[h1];exact h2
theorem CALL.nodes{M:Mx}{O:vX}{nx:Nat}{K:SV->vX->Nat->Prop}(hP:M.P=prog)(hT:M.C.T=uf){i n:Nat}{col:Nat->Int}{sg:Nat->List Qd}(kL:∀x,(sg x).length<=1152921504606846976)(kg:∀x,0<=col x/\col x<1048576)(hpre:Pre (jX col sg))(hn:n<=1048576)
 (hi:u5 i O=some (.deep false 3 (kY col sg (List.range n)))) (hin:i<nx) {n1:Nat} (pF:n1=nx+1) (hK1:n<2->K (.sl (.loc i) 0 3 n none) O nx)
 (hK2:2<=n->∀o:List Nat,o.Perm (List.range n)->(o.Pairwise fun a b=>jX col sg a b<=0)->K (.sl (.loc nx) 0 3 n none) ((nx, .deep false 3 (kY col sg o))::uU i O) n1):
 CALL M 67 [.sl (.loc i) 0 3 n none] O nx K:=by
 subst pF;refine⟨fun J w vs H hd=>?_⟩;obtain⟨R,hR⟩:=Bi (H.own.1 i _ hi).1;obtain⟨vl,rfl,hks⟩:=ZeS hR;have hG:∀x∈List.range n,∃en,uL w (vl x) 16 ((sg x).map Z3) en:=fun x hx=>R7 (hks x (yj.1 hx)) (Zo _);have Rv:=Za2 col vl sg kL kg hpre (List.range n) (by simpa using hn) n n 0 (zo _) (by simp);rw[yN,zg (by simp)]at Rv;have HI:∀j,Zm [i] nx j=if j=0 then i else nx+(j-1):=fun j=>by cases j<;>simp[Zm]
 have hc:CALL (me M O J w i 3 ((List.range n).map (YR col vl))) 67 [.sl (.loc i) 0 3 n none] [] nx (fun r' O' vW=>(n<2/\r'= .sl (.loc i) 0 3 n none/\O'=[]/\vW=nx)\/
  (2<=n/\∃o:List Nat,o.Perm (List.range n)/\(o.Pairwise fun a b=>jX col sg a b<=0)/\r'= .sl (.loc nx) 0 3 n none/\O'=[(nx, .rows 3 (o.map (YR col vl)))]/\vW=nx+1)):=by
  refine CALL.Q4 (G:=fun w=> ∀x∈List.range n,∃en,uL w (vl x) 16 ((sg x).map Z3) en) [i] (by show fR _ M.P M.C.T _ _ _ _ _ _;rw[hP,hT];exact Rv) (fun η' w' H' x hx=>by obtain⟨en,h⟩:=hG x hx;exact⟨en,h.now H'.fr (fun k h=>h)⟩) rfl (fun j hj=>by simp at hj;omega) rfl rfl (fun p hp=>by cases hp) (fun j hj=>by cases hj) (fun p hp=>by
   obtain rfl:=zI.1 hp;refine⟨by show 0<1;omega,?_,Yz _ (h:= .rows _ _) (Uy col vl _),by simp[Zb]⟩;rw[Zv _ (h:= .rows _ _) (Uy col vl _)]
   simp[Yn,HI,me,ez,qv,bA,u5]) ?_
  rintro r O' vW (⟨g1,rfl,rfl,rfl⟩|⟨g1,o,po,so,rfl,rfl,rfl⟩);exact .inl ⟨g1,by simp[ur,uS,HI],by simp[qa,ZY],by simp⟩
  .refine .inr ⟨g1,o,po,so,by simp[ur,uS,HI],?_,by simp⟩;simp only[qa,Zb,ZY,zP,HI];rw[Zv _ (h:= .rows _ _) (Uy col vl _)];simp
 refine(hc.out J w vs (H.raw hR.sat) hd).mono fun v w' ⟨r',O',vW,η',k1,k2,k3,k4⟩=>?_;rcases k4 with⟨g1,rfl,rfl,rfl⟩|⟨g1,o,po,so,rfl,rfl,rfl⟩
 .have e:η'=J:=(k1.eq_of_length (by rw[k2.len,H.len])).symm;subst e;exact⟨_,O,_,_,zu,H.cV k2.fr,k3,hK1 g1⟩
 .obtain⟨t,rfl⟩:=k1;have hl:=k2.len;rw[zh,H.len]at hl;obtain⟨y,rfl⟩:∃y,t=[y]:=List.length_eq_one_iff.1 (by omega);obtain⟨q1,q2⟩:=k2.own.1 nx (.rows 3 (o.map (YR col vl))) (by rw[Z8,zf rfl])
  have qm:(J++ [y]).get (.loc nx)=some y:=by
   show(J++ [y])[nx]?=_
   rw[zw (by rw[H.len];omega),H.len,vI];rfl
  cases y with
  |none=>
   exfalso;simp only[vT]at q1;rcases q1 with⟨_,q3⟩|⟨e,_,_,_,q3,_⟩
   .have:=po.length_eq;rw[yE]at this;have h0:o=[]:=by simpa using q3
    rw[h0]at this;simp at this;omega
   rw[qm]at q3;cases q3
  |some x=>
   have hx:w.heap.size<=x.g:=(q2 x.g (vY.own qm)).elim (fun h=>h.elim) id;have bq:o.Nodup:=po.nodup_iff.2 xJ;have Rw:∀r (h:r<o.length),o[r]<n:=fun r h=>yj.1 (po.mem_iff.1 (zk h));refine⟨_,_,nx+1,_,zz _ _,H.tZ (D':=kY col sg o) (aJ:=fun r=>o.getD r 0) hi k2.fr hx q1 (by simp[kY]) ?_ ?_ ?_ ?_ ?_,k3,hK2 g1 o po so⟩
   .intro r row hr;unfold kY at hr⊢;rw[z6]at hr;obtain⟨y,h1,rfl⟩:=zC.1 hr;obtain⟨h2,h3⟩:=ze.1 h1;have h4:o.getD r 0=y:=by rw[zl,h1];rfl
    rw[h4,z6,yG (h3▸Rw r h2)];rfl
   .intro r r' h1 h2 h3;have e1:r<o.length:=by simpa[kY]using h1
    have e2:r'<o.length:=by simpa[kY]using h2
    simp only[zl,z1 e1,z1 e2,Option.getD_some]at h3;exact(x9 bq).1 h3
   .intro r c row sv hr hc;unfold kY at hr;rw[z6]at hr;obtain⟨y,h1,rfl⟩:=zC.1 hr;refine⟨YR col vl y,by rw[z6,h1];rfl,?_⟩
    match c,hc with
    |0,hc=>simp[oL]at hc;simp[YR,hc]
    |1,hc=>simp[oL]at hc;simp[YR,hc]
    |2,hc=>simp[oL]at hc
    |c+3,hc=>simp[oL]at hc
   .intro r c row es' rows hr hc;unfold kY at hr;rw[z6]at hr;obtain⟨y,h1,rfl⟩:=zC.1 hr;obtain⟨h2,h3⟩:=ze.1 h1;have hy:y<n:=h3▸Rw r h2;have h4:o.getD r 0=y:=by rw[zl,h1];rfl
    have mA:c=2:=by
     match c,hc with
     |0,hc=>simp[oL]at hc
     |1,hc=>simp[oL]at hc
     |2,_=>rfl
     |c+3,hc=>simp[oL]at hc
    subst mA;have hs:=hR.sat;simp only[vT]at hs;rcases hs with⟨_,hs⟩|⟨e,arr,Tt,fz,g2,g3,_,g5⟩
    .have:(List.range n).map (YR col vl)=[]:=hs;have hlz:=z8 List.length this;simp at hlz;omega
    .obtain⟨_,g6⟩:=g5 y (YR col vl y) (by rw[z6,yG hy];rfl);obtain⟨u,g7,_,g8⟩:=g6 2 (.val (vl y)) rfl;simp only[Den]at g8;have hb:=(((H.own.1 i _ hi).1.wJ).2.1 e g2).1;refine⟨YR col vl y,vl y,e,_,by rw[z6,h1];rfl,rfl,g2,g3,?_⟩;simp only[ZI];rw[hb,zx]at g7;rw[h4,g7,g8.1]
   .intro r row j9 h1 h2;unfold kY at h1;rw[z6]at h1 h2;obtain⟨y,_,rfl⟩:=zC.1 h1;obtain⟨y2,_,rfl⟩:=zC.1 h2
    rfl
end Go.Proofs.YtlcbipfmodcedaaGreatDoor
