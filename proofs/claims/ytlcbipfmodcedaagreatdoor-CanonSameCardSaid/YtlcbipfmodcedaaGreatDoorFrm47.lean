/- Part 47: Can9, Can10, Can11. Conditions: as each part says. -/
import Derived.Test.YtlcbipfmodcedaaGreatDoorFrm44
import Derived.Test.YtlcbipfmodcedaaGreatDoorFrm46
set_option linter.unusedVariables false
set_option linter.unusedSimpArgs false
set_option maxRecDepth 20000
set_option maxHeartbeats 8000000
namespace Go.Proofs.YtlcbipfmodcedaaGreatDoor
open Go.Sx Go.Our Go.Lib
open _root_.Go.Proofs.Tryz
def jk(L:List Nat):List (List SV):=L.map Y8
def UJ(c:Nat)(k:Int)(L:List Nat):DC:=if 0<=k/\k< (c:Int)then .v .any else .uA 1 (jk L)
theorem S3(L:List Nat):Zj (jk L)=true:=Bk L
instance {m:List (Int×List Nat)}:bu (YU KI 1 jk m):=⟨Gm KI (h:=fun _ v=> .uA 1 (jk v)) (fun k v=>S3 v) m⟩
instance {c:Nat}{m:List (Int×List Nat)}:bu (YW KI (UJ c) m):=⟨Gm KI (fun k v=>by unfold UJ;split;rfl;exact S3 v) m⟩
theorem ZiV{a:Int}{es:Nat}{rows:List (List SV)}{L:List Nat}{m:List (Int×List Nat)}(wF:es=1)(hr:rows=jk L):kE (false,[CK.int .i64]) (je (SV.int .i64 a)) (.uA es rows) (YU KI 1 jk m)=YU KI 1 jk (wM a L m):=by
 subst wF hr;exact ZjJ KI 1 jk a L m
theorem S4{a:Int}{j:Nat}{L:List Nat}{m:List (Int×List Nat)}(h:Int->List Nat->DC)(d:DC)(hn:(m.map Prod.fst).Nodup)(hx:jb a m=some (j,L)):findD (false,[CK.int .i64]) (SV.int .i64 a) 0 ((YW KI h m).modify j (jl d))=some (j,d):=by
 rw[BV KI h d hn hx];exact(HM KI _ a m 0).trans (by rw[hx];simp)
theorem ZgI{a:Int}{j es:Nat}{rows:List (List SV)}{L L':List Nat}{m:List (Int×List Nat)}{d:DC}(hn:(m.map Prod.fst).Nodup)(hx:jb a m=some (j,L))(wF:es=1)(hr:rows=jk L'):kE (false,[CK.int .i64]) (je (SV.int .i64 a)) (.uA es rows) ((YU KI 1 jk m).modify j (jl d))=YU KI 1 jk (wM a L' m):=by
 subst wF hr;have hf:=S4 (fun _ v=> .uA 1 (jk v)) d hn hx;show kE (false,[CK.int .i64]) (SV.int .i64 a) _ _=_
 unfold kE;rw[RQ,hf];exact Zi7 KI 1 jk d hx rfl
theorem S5{a:Int}{j:Nat}{L:List Nat}{m:List (Int×List Nat)}(h:Int->List Nat->DC)(d:DC)(hn:(m.map Prod.fst).Nodup)(hx:jb a m=some (j,L)):JP (false,[CK.int .i64]) (Zy ((YW KI h m).modify j (jl d))):=by
 rw[BV KI h d hn hx];exact BU KI _ _
theorem ZcG(m:List (Int×List Nat)):YU KI 1 jk m=YW KI (UJ 0) m:=by
 rw[RQ];congr 1;funext k v;unfold UJ;rw[z7 (by omega)]
theorem ZcH(c:Nat)(m:List (Int×List Nat)):qH (YW KI (UJ c) m) (YW KI (UJ (c+1)) m):=by
 refine RR KI fun k v=>?_;unfold UJ;by_cases h:0<=k/\k< (c:Int)
 rw[zf (by omega)];exact .inr rfl
 .rw[z7 h];by_cases h2:0<=k/\k< ((c+1:Nat):Int)
  rw[zf h2];exact .inr rfl;rw[z7 h2];exact .inl rfl
theorem ZcI{c j:Nat}{L:List Nat}{m:List (Int×List Nat)}(d:DC)(hn:(m.map Prod.fst).Nodup)(hx:jb (c:Int) m=some (j,L)):qH ((YW KI (UJ c) m).modify j (jl d)) (YW KI (UJ (c+1)) m):=by
 rw[BV KI _ d hn hx];refine RR KI fun k v=>?_;unfold UJ;by_cases h:k=(c:Int)
 .subst h;rw[zf (by omega)];exact .inr rfl
 .rw[z7 h];by_cases h2:0<=k/\k< (c:Int)
  rw[zf (by omega)];exact .inr rfl;rw[z7 h2,z7 (by omega)];exact .inl rfl
theorem ZgJ(L:List Nat)(x:Nat):List.take ((jk L).length+1) (List.take (jk L).length (jk L)++List.take 1 (List.drop 0 [[SV.int .i64 (x:Int)]]))=jk (L++ [x]):=by
 rw[y8,zg (by simp)];simp[jk,Y8]
def ZiW(cl:List Int):SV->vX->Nat->Prop:=fun r O nx=>
 (J5 cl=none/\r= .val (.slice none 0 0)/\O=[]/\nx=1)\/
 (∃c,J5 cl=some c/\1< (w9 cl (c:Int)).length/\r= .sl (.loc 1) 0 1 (w9 cl (c:Int)).length none/\O=[(1, .rows 1 ((w9 cl (c:Int)).map Y8))]/\nx=2)
theorem Za8(cl:List Int)(hl:cl.length<=4096):vS prog uf 72 1 [.sl (.loc 0) 0 1 cl.length none] [] [(0, .rows 1 (cl.map Zg))] (ZiW cl):=by
 refine vS.enter Z0 call72 func72 rfl 38 rfl rfl [.tmp 2] rfl ?_;intro w0 F η0 h0;conv=>whnf
 skip
 refine uT.loop (uT.G0 1 rfl) ?_;refine vZ.kj Z0 [0,3,8,9] [] (X:=Nat) (fun i=>i<=cl.length) (fun i=>[(10, .int .i64 (i:Int))]) (fun i=>[(1, .deep true 2 (YU KI 1 jk (oq cl i)))]) 2 (fun i=>cl.length-i) 0 (by omega) ?_;conv=>whnf
 refine⟨by exact vU.kA h0 [1],?_⟩;intro i hi;have kg:=Zkk cl i;have hml:=ZiO cl i;have b8:=Zgy cl i;have hmn:=Zf4 cl i;have hall:i=cl.length->∀c,(wL c (oq cl i)).getD []=w9 cl c:=fun e c=>by subst e;exact ZiN cl c
 generalize oq cl i=m at kg hml b8 hmn hall⊢;conv=>whnf
 by_cases hil:i<cl.length
 .have hgd:cl.getD i 0=cl[i]:=by rw[zl,z1 hil];rfl
  rw[hgd]at b8;have gF:∀{k:Nat},k=i->(cl.map Zg)[k]?=some (Zg cl[i]):=fun e=>by subst e;rw[z6,z1 hil];rfl
  cases hx:jb cl[i] m with
  |none=>
   have A0:findD (false,[CK.int .i64]) (SV.int .i64 cl[i]) 0 (YU KI 1 jk m)=none:=(iQ KI 1 jk cl[i] m 0).trans (by rw[hx];rfl);repeat'(first|refine GET.at (gF (by omega)) ?_|refine u6.mk ⟨KI.ok _,M0 KI _ _ _⟩ ?_|refine wV.no A0 ?_|refine u6.mk ⟨rfl,by omega,zU rfl⟩ ?_|refine AU ?_|refine IW ?_ ?_<;>intro h<;>try omega)<;>conv=>whnf
   all_goals
    rw[ZiV (L:=[i]) (by rfl) (by rfl)];refine⟨i+1,by omega,by omega,?_⟩;rw[b8,Uq hx,Option.getD_none,List.nil_append];conv=>whnf
    exact vU.kA h0 [1]
  |some p=>
   obtain⟨j,L⟩:=p
   have hL:(jk L).length<=4096:=by
    have:=kg cl[i];rw[Kq hx]at this;simp only[jk,zy,Option.getD_some]at*;omega
   have A1:findD (false,[CK.int .i64]) (SV.int .i64 cl[i]) 0 (YU KI 1 jk m)=some (j, .uA 1 (jk L)):=(iQ KI 1 jk cl[i] m 0).trans (by rw[hx];simp);repeat'(first|refine GET.at (gF (by omega)) ?_|refine u6.mk ⟨KI.ok _,M0 KI _ _ _⟩ ?_|refine wV.at A1 ?_|refine u6.mk (Zn 8 rfl rfl rfl (zo _) (by omega)) ?_|refine u6.mk ⟨KI.ok _,S5 (fun _ v=> .uA 1 (jk v)) _ hmn hx⟩ ?_|refine AU ?_|refine IW ?_ ?_<;>intro h<;>try omega)<;>conv=>whnf
   all_goals
    rw[ZgI (L':=L++ [i]) hmn hx (by rfl) (ZgJ L _)];refine⟨i+1,by omega,by omega,?_⟩;rw[b8,Kq hx,Option.getD_some];conv=>whnf
    exact vU.kA h0 [1]
 .have hie:i=cl.length:=by omega
  have Gp:=hall hie;clear b8 kg hml hall;subst hie;repeat'(first|refine IW ?_ ?_<;>intro h<;>try omega)<;>conv=>whnf
  rw[ZcG];refine vZ.kj Z0 [3,25] [] (X:=Nat) (fun c=>c<=cl.length/\∀d,d<c->¬1< (w9 cl (d:Int)).length) (fun c=>[(26, .int .i64 (c:Int))]) (fun c=>[(1, .deep true 2 (YW KI (UJ c) m))]) 2 (fun c=>cl.length-c) 0 ⟨by omega,fun d hd=>by omega⟩ ?_;conv=>whnf
  refine⟨by exact vU.kA h0 [1],?_⟩;rintro c ⟨hc,hb⟩;have jo:=BW cl (c:Int)
  have aS:¬1< (w9 cl (c:Int)).length->∀d,d<c+1->¬1< (w9 cl (d:Int)).length:=fun h d hd=>by
   rcases zY d c with h1|h1
   exact hb d h1
   .have:d=c:=by omega
    subst this;exact h
  conv=>whnf
  by_cases hcA:c<cl.length
  .have iI:=fun h=>ZgB hcA h hb;cases hx:jb (c:Int) m with
   |none=>
    have A0:findD (false,[CK.int .i64]) (SV.int .i64 (c:Int)) 0 (YW KI (UJ c) m)=none:=(HM KI (UJ c) (c:Int) m 0).trans (by rw[hx];rfl);repeat'(first|refine u6.mk ⟨KI.ok _,BU KI _ _⟩ ?_|refine wV.no A0 ?_|refine IW ?_ ?_<;>intro h<;>try omega)<;>conv=>whnf
    have he:w9 cl (c:Int)=[]:=by rw[<-Gp,Uq hx];rfl
    refine⟨c+1,⟨by omega,aS (by rw[he];simp)⟩,by omega,?_⟩;conv=>whnf
    refine(uT.goes (uT.dW 1 rfl (ZcH c m))).trans ?_;exact vU.kA h0 [1]
   |some p=>
    obtain⟨j,L⟩:=p;have A1:findD (false,[CK.int .i64]) (SV.int .i64 (c:Int)) 0 (YW KI (UJ c) m)=some (j, .uA 1 (jk L)):=(HM KI (UJ c) (c:Int) m 0).trans (by rw[hx];simp[UJ]);have hfT:=fun d=>S4 (UJ c) d hmn hx;have HV:w9 cl (c:Int)=L:=by rw[<-Gp,Kq hx];rfl
    rw[HV]at iI aS jo;have hlv:(jk L).length=L.length:=by simp[jk]
    repeat'(first|refine u6.mk ⟨KI.ok _,BU KI _ _⟩ ?_|refine u6.mk ⟨KI.ok _,S5 (UJ c) _ hmn hx⟩ ?_|refine wV.at A1 ?_|refine wV.at (hfT _) ?_|refine IW ?_ ?_<;>intro h<;>try omega)<;>conv=>whnf
    .have h1:1<L.length:=by omega
     rw[hlv,show jk L=L.map Y8 from rfl];exact u0.aA h0 [2] (.sl (.loc 1) 0 1 L.length none) [(1, .rows 1 (L.map Y8))] (.inr ⟨c,iI h1,by rw[HV];exact h1,by rw[HV],by rw[HV],rfl⟩)
    .refine⟨c+1,⟨by omega,aS (by omega)⟩,by omega,?_⟩;conv=>whnf
     refine(uT.goes (uT.dW 1 rfl (ZcI _ hmn hx))).trans ?_;exact vU.kA h0 [1]
  .have hce:c=cl.length:=by omega
   subst hce;repeat'(first|refine IW ?_ ?_<;>intro h<;>try omega)<;>conv=>whnf
   exact u0.aA h0 [] (.val (.slice none 0 0)) [] (.inl ⟨ZgC hb,rfl,rfl,rfl⟩)
end Go.Proofs.YtlcbipfmodcedaaGreatDoor
namespace Go.Proofs.YtlcbipfmodcedaaGreatDoor
open Go.Sx Go.Our Go.Lib
open _root_.Go.Proofs.Tryz
def ZgK:uu:=(Zs [(0,1),(1,1),(2,1),(3,1),(4,1),(5,1),(6,1),(7,1),(8,1),(9,1),(10,1),(11,1),(12,1),(13,0)])
def S9:uu:=(Zs [(0,1),(1,1),(2,1),(3,1),(4,1),(6,1),(7,1),(8,1),(5,2),(9,2),(10,3),(11,1),(12,2),(13,3),(14,1),(15,1),(16,1),(17,0)])
theorem Za9(r:Nat):vS prog uf 62 1 [.ptr (.loc 0) r 16 0] [] []
 (fun v O nx=>v= .arr 1 [[.ptr (.loc 0) r 16 0],[.ptr (.loc 0) r 16 4],[.ptr (.loc 0) r 16 8],[.ptr (.loc 0) r 16 12]]/\O=[]/\nx=1):=by
 refine vS.enter Z0 call62 func62 rfl 16 rfl rfl [.cell 2 100] rfl ?_;intro w0 F η0 h0;conv=>whnf
 repeat'(first|(show uq _ _ _ _ _ _ _;first|refine Z4 1 ZgK ?_)|refine AU ?_)<;>conv=>whnf
 exact u0.aA h0 [] (.arr 1 [[.ptr (.loc 0) r 16 0],[.ptr (.loc 0) r 16 4],[.ptr (.loc 0) r 16 8],[.ptr (.loc 0) r 16 12]]) [] ⟨rfl,rfl,rfl⟩
def nI(A:List LB)(cl:List Int)(q:Qd):Nat->Qd
 |0=>⟨q.s,q.p,q.o,q.g⟩
 |1=>⟨JW A cl q.s,q.p,q.o,q.g⟩
 |2=>⟨JW A cl q.s,JW A cl q.p,q.o,q.g⟩
 |3=>⟨JW A cl q.s,JW A cl q.p,JW A cl q.o,q.g⟩
 |_=>UA A cl q
theorem ZiY{A:List LB}{cl:List Int}{t:Tm}(h:¬t.k=2):JW A cl t=t:=z7 h
theorem ZiZ{A:List LB}{cl:List Int}{t:Tm}{n0:Nat}(h:t.k=2)(hn:n0=A.idxOf t.t){c:Int}(hc:cl.getD n0 0=c)(h0:0<=c):JW A cl t=⟨t.k,[99]++itoa c,t.y,t.l⟩:=by
 unfold JW gG;rw[zf h,<-hn,hc];have:itoa c=decDigits c.toNat:=by unfold itoa;rw[z7 (by omega)]
 rw[this];rfl
theorem Sb{W Z:List Qd}{q:Qd}{k:Nat}(h:k=W.length):((W++q::Z).map Z3)[k]?=some (Z3 q):=by
 subst h;rw[z6,zw (zo _)];simp
theorem ZgL{W Z:List Qd}{q q':Qd}{k:Nat}{row:List SV}(h:k=W.length)(hr:row=Z3 q'):((W++q::Z).map Z3).set k row=(W++q'::Z).map Z3:=by
 subst h hr;rw[<-vj,vn _ _ (zo _)];simp
theorem ZcK(A:List LB)(l z:List Qd)(lim:Option Nat)(cl:List Int)(ki:cl.length=A.length)(e8:A.length<=4096)(hl:l.length<=1048576)(hnd:A.Nodup)(hmem:∀s∈Zz l,s∈A)(kg:∀c∈cl,0<=c/\c<10000)(hz:(l++z).length<=1152921504606846976):
 vS prog uf 36 6 [.ptr (.loc 0) 0 0 0, .sl (.loc 4) 0 1 A.length none] [] [(0,Ga l.length lim A.length),(1, .rows 16 ((l++z).map Z3)),(2, .mp (qb (Xr 0 A A.length))),(4, .rows 1 (cl.map Zg))]
 (fun r O nx=>r= .sl (.loc 6) 0 16 l.length none/\O=[(6, .rows 16 ((ZA A l cl).map Z3))]/\nx=7):=by
 have l6:=G2 (b:=0) hnd;have nZ:=Z9r l z lim (by omega);have Se:=ME (l.map (UA A cl)) (by rw[zy];omega);rw[zy]at Se;refine vS.enter Z0 call36 func36 rfl 53 rfl rfl [.tmp 4] rfl ?_;intro w0 F η0 h0;conv=>whnf
 skip
 refine CALL.aA [1] (nZ) ?_;rintro r O nx ⟨rfl,rfl,rfl⟩;conv=>whnf
 skip
 refine vZ.kj Z0 [0,1,5,15] [] (X:=Nat) (fun i=>i<=l.length) (fun i=>[(16, .int .i64 (i:Int))]) (fun i=>[(6, .rows 16 (((l.take i).map (UA A cl)++l.drop i).map Z3))]) 7 (fun i=>l.length-i) 0 (by omega) ?_;conv=>whnf
 refine⟨by exact vU.kA h0 [6],?_⟩;intro i hi;conv=>whnf
 by_cases hil:i<l.length
 .obtain⟨q,hq⟩:∃q,q=l[i]:=⟨_,rfl⟩;have dr:∀s∈Zw q,s∈A:=fun s hs=>hmem s (xV.2 ⟨q,by rw[hq];exact zk hil,hs⟩);have hT:=Za9 (0+(i:Int).toNat);obtain⟨W,hW⟩:∃W,W=(l.take i).map (UA A cl):=⟨_,rfl⟩;have hWl:W.length=i:=by rw[hW,zy,zq];omega
  have hnext:∀Z,(l.take (i+1)).map (UA A cl)++Z=W++UA A cl q::Z:=fun Z=>by rw[zH hil,yz,<-hW,<-hq];simp
  rw[<-hW,zm hil,<-hq];obtain⟨Z,hZ⟩:∃Z,Z=l.drop (i+1):=⟨_,rfl⟩;rw[<-hZ];repeat'(first|refine AU ?_|refine IW ?_ ?_<;>intro h<;>try omega)<;>conv=>whnf
  refine CALL.aA [6] (hT) ?_;rintro r O nx ⟨rfl,rfl,rfl⟩;conv=>whnf
  skip
  refine vZ.kj Z0 [0,1,5,15,16,22] [] (X:=Nat) (fun j=>j<=4) (fun j=>[(23, .int .i64 (j:Int))]) (fun j=>[(6, .rows 16 ((W++nI A cl q j::Z).map Z3))]) 7 (fun j=>4-j) 0 (by omega) ?_;conv=>whnf
  refine⟨by exact vU.kA h0 [6],?_⟩;intro j hj;conv=>whnf
  by_cases tD:j<4
  .have Bq:j=0\/j=1\/j=2\/j=3:=by omega
   obtain⟨l1,l2,l3,l4⟩:=HX dr;obtain⟨X,hX⟩:∃X,X=j:=⟨_,rfl⟩;rcases Bq with rfl|rfl|rfl|rfl
   all_goals rw[<-hX]at tD
   all_goals first
    |(obtain⟨t,ht,hsub⟩:∃t,t=q.s/\(t.k=2->t.t∈A):=⟨_,rfl,l1⟩;rw[show nI A cl q 0=⟨q.s,q.p,q.o,q.g⟩from rfl])
    |(obtain⟨t,ht,hsub⟩:∃t,t=q.p/\(t.k=2->t.t∈A):=⟨_,rfl,l2⟩;rw[show nI A cl q 1=⟨JW A cl q.s,q.p,q.o,q.g⟩from rfl])
    |(obtain⟨t,ht,hsub⟩:∃t,t=q.o/\(t.k=2->t.t∈A):=⟨_,rfl,l3⟩;rw[show nI A cl q 2=⟨JW A cl q.s,JW A cl q.p,q.o,q.g⟩from rfl])
    |(obtain⟨t,ht,hsub⟩:∃t,t=q.g/\(t.k=2->t.t∈A):=⟨_,rfl,l4⟩;rw[show nI A cl q 3=⟨JW A cl q.s,JW A cl q.p,JW A cl q.o,q.g⟩from rfl])
   all_goals
    repeat'(first|refine u6.mk ⟨by omega,by omega,rfl⟩ ?_|refine GET.at (row:=_) rfl ?_|refine GET.at (Sb (by omega)) ?_|(show uq _ _ _ _ _ _ _;first|refine Z4 9 S9 ?_)|refine wh.mk (fun _ _=>?_)|refine AD ?_|refine qz.mk ?_ ?_|refine AU ?_|refine IW ?_ ?_<;>intro h<;>try omega)<;>conv=>whnf
    rotate_left
    .refine⟨X+1,by omega,by omega,?_⟩;rw[show nI A cl q (X+1)=nI A cl q X by subst hX;simp only[nI,UA,ZiY (show ¬_=(2:Int)from ‹_›)],hX];conv=>whnf
     exact vU.cA h0
    have h2:t.k=2:=by rw[ht];assumption
    have bT:=hsub h2;have qc:=y7 bT;have og:A[A.idxOf t.t]=t.t:=yI qc;have bf:oJ 0 A t.t=((A.idxOf t.t:Nat):Int):=by unfold oJ;rw[zf bT];omega
    refine u6.mk ⟨KT.ok _,JR KT jC _⟩ ?_;rw[<-ht];refine eu.A KT jC t.t (Xr 0 A A.length) (fun i v hf=>?_) (fun hf=>?_)
    rotate_left
    .have hg:=tQ (b:=0) hnd A.length t.t (zo _);rw[Uq hf,yp qc]at hg;cases hg
    have hv:=G1 hf;rw[l6,bf]at hv;subst hv;obtain⟨n0,hn0⟩:∃n0,n0=A.idxOf t.t:=⟨_,rfl⟩;rw[<-hn0]at qc⊢
    have gC:∀{m:Nat},m=n0->(cl.map Zg)[m]?=some (Zg (cl[n0]'(by omega))):=fun{m} e=>by
     rw[e,z6,z1 (by omega)];rfl
    have hcb:=kg _ (zk (show n0<cl.length by omega));have hto:=ZiZ h2 hn0 (cl:=cl) (c:=cl[n0]'(by omega)) (by rw[zl,z1 (show n0<cl.length by omega)];rfl) hcb.1
    have hil:(itoa (cl[n0]'(by omega))).length<=4:=by
     have h4:=iR 3 (cl[n0]'(by omega)).toNat (by omega);have h5:itoa (cl[n0]'(by omega))=decDigits (cl[n0]'(by omega)).toNat:=by unfold itoa;rw[z7 (by omega)]
     rw[h5];exact h4
    rw[ht]at hto;clear dr hf;conv=>whnf
    repeat'(first|refine u6.mk (show 1+(itoa (cl[n0]'(by omega))).length<=9223372036854775807 by omega) ?_|refine GET.at (gC (by omega)) ?_|refine CALL.value (Ba (cl[n0]'(by omega)) ⟨by omega,by omega⟩) rfl rfl ?_|refine GET.at (Sb (by omega)) ?_|(show uq _ _ _ _ _ _ _;first|refine Z4 9 S9 ?_)|refine wh.mk (fun _ _=>?_)|refine AD ?_|refine qz.mk ?_ ?_|refine AU ?_|refine IW ?_ ?_<;>intro h<;>try omega)<;>conv=>whnf
    all_goals
     rw[ZgL (q':=nI A cl q (X+1)) (by omega) (by subst hX;simp only[nI,UA,hto];subst ht;rfl)];refine⟨X+1,by omega,by omega,?_⟩;conv=>whnf
     exact vU.kA h0 [6]
  .have tw:j=4:=by omega
   subst tw;rw[show nI A cl q 4=UA A cl q from rfl];repeat'(first|refine AU ?_|refine IW ?_ ?_<;>intro h<;>try omega)<;>conv=>whnf
   refine⟨i+1,by omega,by omega,?_⟩;rw[hnext,<-hZ];conv=>whnf
   exact vU.kA h0 [6]
 .have hie:i=l.length:=by omega
  subst hie;rw[y8,vw,zP];repeat'(first|refine AU ?_|refine IW ?_ ?_<;>intro h<;>try omega)<;>conv=>whnf
  refine CALL.aA [6] (Se) ?_;rintro r O nx ⟨rfl,rfl,rfl⟩;conv=>whnf
  repeat'(first|refine AU ?_|refine IW ?_ ?_<;>intro h<;>try omega)<;>conv=>whnf
  exact u0.aA h0 [6] (.sl (.loc 6) 0 16 l.length none) [(6, .rows 16 ((ZA A l cl).map Z3))] ⟨rfl,rfl,rfl⟩
open _root_.Go.Proofs.Tryz
def ZgM:uu:=(Zs [(0,2),(1,1),(2,2),(3,2),(4,1)])
def ZgN:uu:=(Zs [(2,1),(0,2),(1,2),(3,3),(4,3),(5,1)])
def ZgO:uu:=(.take 2 1 (.take 1 2 (.fork 0 3 3 0 (Zs [(3,0),(4,0),(5,1)]) (Zs [(0,2),(4,0),(5,1)]))))
theorem Zaa(cl:List Int)(hl:cl.length<=1048576):vS prog uf 73 1 [.sl (.loc 0) 0 1 cl.length none] [] [(0, .rows 1 (cl.map Zg))]
 (fun r O nx=>r= .sl (.loc 1) 0 1 cl.length none/\O=[(1, .rows 1 (cl.map Zg))]/\nx=2):=by
 refine vS.enter Z0 call73 func73 rfl 8 rfl rfl [.tmp 2] rfl ?_;intro w0 F η0 h0;conv=>whnf
 repeat'(first|refine u6.mk (Zn 8 rfl rfl (by simp) (by simp) (by omega)) ?_|((with_reducible refine rS.mk (fun h=>?_) ?_)<;>try omega))<;>conv=>whnf
 .have:cl=[]:=zM.1 h;subst this;refine u0.nil 1 ?_;exact u0.aA h0 [1] (.sl (.loc 1) 0 1 0 none) [(1, .rows 1 (([]:List Int).map Zg))] ⟨rfl,rfl,rfl⟩
 .rw[zx,show List.take 0 ([]:List (List SV))++List.take cl.length (List.drop 0 (cl.map Zg))=cl.map Zg by simp[zg]];exact u0.aA h0 [2] (.sl (.loc 1) 0 1 cl.length none) [(1, .rows 1 (cl.map Zg))] ⟨rfl,rfl,rfl⟩
def rK:Code->Option (List Nat×Code×Code)
 | .seq a b=>match rK a with|some x=>some x|none=>rK b
 | .cond _ a b=>match rK a with|some x=>some x|none=>rK b
 | .block _ b=>rK b
 | .loop b=>rK b
 | .scope b=>rK b
 | .rangeFunc _ ps eo body=>some (ps.toList,eo,body)
 |_=>none
noncomputable def ic:mh:=match f13.body with
 |some c=>match rK c with
  |some (ps,a,b)=>⟨f13.ntmps,ps,a,b⟩
  |none=>⟨0,[], .skip, .skip⟩
 |none=>⟨0,[], .skip, .skip⟩
abbrev jd:=Option (List Qd×List Int)
abbrev bC(b:jd)(k:Nat):SV:=match b with|none=> .val (.slice none 0 0)|some p=> .sl (.loc k) 0 16 p.1.length none
abbrev cC(b:jd)(k:Nat):SV:=match b with|none=> .val (.slice none 0 0)|some p=> .sl (.loc k) 0 1 p.2.length none
abbrev bR(b:jd):List (List SV):=match b with|none=>[]|some p=>p.1.map Z3
abbrev cR(b:jd):List (List SV):=match b with|none=>[]|some p=>p.2.map Zg
instance {b:jd}:Pl (bR b):=⟨by cases b with|none=>rfl|some p=>exact Zo _⟩
instance {b:jd}:Pl (cR b):=⟨by cases b with|none=>rfl|some p=>exact Vp _⟩
def A2:SV:= .fn (.func 71) [] [.ptr (.loc 6) 0 0 0, .ptr (.loc 7) 0 0 0, .ptr (.loc 8) 0 0 0, .ptr (.loc 9) 0 0 0, .ptr (.loc 10) 0 0 0]
def Qh(B:Nat):Fr:=[(30, .fn (.func 70) [] [.ptr (.loc 6) 0 0 0, .ptr (.loc 7) 0 0 0, .ptr (.loc 10) 0 0 0]),(1, .int .i64 (B:Int)),(7, .ptr (.loc 11) 0 0 0),(9, .ptr (.loc 12) 0 0 0),(10, .ptr (.loc 14) 0 0 0),(11, .ptr (.loc 15) 0 0 0)]
noncomputable abbrev aL (A:List LB)(l:List Qd)(B n:Nat)(b:jd)(p q:Nat):vX:=[(3, .deep false 1 (wT (uQ A l))),(12, .box [.int .i64 (n:Int)]),(13, .lp .ready ic (Qh B)),(14, .box [bC b p]),(15, .box [cC b q]),(p, .rows 16 (bR b)),(q, .rows 1 (cR b))]
abbrev wkS(A:List LB)(l z:List Qd)(lim:Option Nat)(B:Nat):vX:=[(0,Ga l.length lim A.length),(1, .rows 16 ((l++z).map Z3)),(2, .mp (qb (Xr 0 A A.length))),(6, .box [.ptr (.loc 12) 0 0 0]),(7, .box [.int .i64 (B:Int)]),(8, .box [.yf (.loc 13)]),(9, .box [A2]),(10, .box [.ptr (.loc 0) 0 0 0]),(11, .box [.ptr (.loc 0) 0 0 0])]
def Gr(A:List LB)(l:List Qd)(B:Nat)(s:Nat×List (List Int)):SV->vX->Nat->Prop:=fun r O nx=>
 (∀cl∈s.2,wH A cl)/\r= .bool (decide (s.1<=B))/\O=aL A l B s.1 (JV (ZA A l) s.2) 18 19/\nx=20
theorem uT.best{M:Mx}{A:List LB}{l:List Qd}{B:Nat}{x:SV}(b:jd){h4:Hp}:uT M [(4,h4),(3, .deep false 1 (wT (uQ A l))),(12, .box [x]),(13, .lp .ready ic (Qh B)),(14, .box [bC b 16]),(15, .box [cC b 17]),(16, .rows 16 (bR b)),(17, .rows 1 (cR b))] 18
 [(19, .rows 1 (cR b)),(18, .rows 16 (bR b)),(4,h4),(3, .deep false 1 (wT (uQ A l))),(12, .box [x]),(13, .lp .ready ic (Qh B)),(14, .box [bC b 18]),(15, .box [cC b 19])] 20:=by
 cases b with
 |none=>exact uT.trans (uT.nJ 16 rfl) (uT.nJ 17 rfl)
 |some p=>exact uT.trans (uT.fresh 16 14 rfl rfl (by decide)) (uT.fresh 17 15 rfl rfl (by decide))
structure rL(A:List LB)(cl:List Int):Prop where
 cn:cl.length=A.length
 cs:∀c∈cl,0<=c/\c< (cl.length:Int)
set_option maxHeartbeats 16000000 in
theorem Zfh(A:List LB)(l z:List Qd)(lim:Option Nat)(B:Nat)(hB:B<=65536)(e8:A.length<=4096)(hl:l.length<=1048576)(hnd:A.Nodup)(hmem:∀s∈Zz l,s∈A)(hz:(l++z).length<=1152921504606846976):
 ∀(k n:Nat) (Ls:List (List Int)) (cl:List Int),n<=B->B<n+k->rL A cl->(∀c∈Ls,wH A c)->(A.length=0->Ls=[])->
 vS prog uf 71 18 [.sl (.loc 4) 0 1 A.length none, .ptr (.loc 6) 0 0 0, .ptr (.loc 7) 0 0 0, .ptr (.loc 8) 0 0 0, .ptr (.loc 9) 0 0 0, .ptr (.loc 10) 0 0 0]
  ((4, .rows 1 (cl.map Zg))::aL A l B n (JV (ZA A l) Ls) 16 17) (wkS A l z lim B) (Gr A l B (Vr A l B k cl (n,Ls))):=by
 intro k
 induction k with
 |zero=>intro n Ls cl h1 h2;omega
 |succ k ih=>
  intro n Ls cl hn hk hc rM hA0;have ki:=hc.cn;have Sf:=Za8 cl (by omega);rw[ki]at Sf;obtain⟨b,hb⟩:∃b,b=JV (ZA A l) Ls:=⟨_,rfl⟩;have hw:IntKind.i64.wrap ((n:Int)+1)=((n+1:Nat):Int):=by rw[Z9 (by omega) (by omega)];omega
  rw[<-hb];refine vS.enter Z0 call71 func71 rfl 62 rfl rfl [.tmp 7] rfl ?_;intro w0 F η0 h0;conv=>whnf
  skip
  refine uT.drawn (uT.best b) ?_;repeat'(first|(show uq _ _ _ _ _ _ _;first|refine Z4 2 ZgM ?_|refine Z4 17 ZgN ?_)|refine IW ?_ ?_<;>intro h<;>try omega)<;>conv=>whnf
  .have ho:B<n+1:=by omega
   rw[W8 ho,hw];have hf:∀b,b=JV (ZA A l) Ls->Gr A l B (n+1,Ls) (.bool false) (aL A l B (n+1) b 18 19) 20:=fun b hb=>⟨rM,z8 SV.bool (y5 (by show ¬n+1<=B;omega)).symm,by rw[hb],rfl⟩
   replace hf:=hf b hb
   clear hb;cases b with
   |none=>exact u0.aA h0 [18,19] (.bool false) (aL A l B (n+1) none 18 19) hf
   |some p=>exact u0.aA h0 [18,19] (.bool false) (aL A l B (n+1) (some p) 18 19) hf
  have ho:¬B<n+1:=by omega
  rw[hw];refine CALL.aA [4] (Sf) ?_;rintro r O nx (⟨hs,rfl,rfl,rfl⟩|⟨c,hs,h1,rfl,rfl,rfl⟩)
  .rw[W9 ho hs];have hlf:wH A cl:=⟨ki,hc.cs,hs⟩;have A3:=ZcK A l z lim cl ki e8 hl hnd hmem (fun c hc1=>by have:=hc.cs c hc1;omega) hz;have hf:∀b',b'=YQ (ZA A l) b cl->Gr A l B (n+1,Ls++ [cl]) (.bool true) (aL A l B (n+1) b' 18 19) 20:=fun b' hb'=>⟨fun c mA=>(zQ.1 mA).elim (rM c) (fun h=>by rw[zI.1 h];exact hlf),z8 SV.bool (yq (by show n+1<=B;omega)).symm,by rw[hb',hb,RV],rfl⟩;conv=>whnf
   repeat'(first|refine AU ?_)<;>conv=>whnf
   refine eU.of Z0 rfl rfl rfl ?_;intro η2 ro2 h2;conv=>whnf
   skip
   refine CALL.aA [0,1,2,3,4,5] (A3) ?_;rintro r O nx ⟨rfl,rfl,rfl⟩;have hfl:=JX A l cl;have hx:aL A l B (n+1) (some (ZA A l cl,cl)) 18 19=[(3, .deep false 1 (wT (uQ A l))),(12, .box [.int .i64 ((n+1:Nat):Int)]),(13, .lp .ready ic (Qh B)),(14, .box [.sl (.loc 18) 0 16 l.length none]),(15, .box [.sl (.loc 19) 0 1 A.length none]),(18, .rows 16 ((ZA A l cl).map Z3)),(19, .rows 1 (cl.map Zg))]:=by simp only[aL,bC,cC,bR,cR,hfl,ki]
   cases b with
   |none=>
    replace hf:=hf _ rfl
    rw[show YQ (ZA A l) none cl=some (ZA A l cl,cl)from rfl,hx]at hf;conv=>whnf
    repeat'(first|refine AU ?_)<;>conv=>whnf
    exact u0.aA h0 [20,4] (.bool true) _ hf
   |some p=>
    have cS:Ls≠ []:=fun e=>by rw[e,HR]at hb;cases hb
    have Gt:A.length≠0:=fun e=>cS (hA0 e);obtain⟨c',eY,oF⟩:=HS (ZA A l) cS;rw[<-hb]at oF;injection oF with oF;subst oF;have kg:=(rM _ eY).cn;have z89:(ZA A l c',c').snd.length=A.length:=kg;have A4:=JX A l c';have Gu:=Rj (ZA A l cl) (ZA A l c') none none (by omega) (by omega);rw[hfl]at Gu;conv=>whnf
    repeat'(first|refine AU ?_|((with_reducible refine rS.mk (fun h=>?_) ?_)<;>try omega))<;>conv=>whnf
    refine CALL.aA [20,18] (Gu) ?_;rintro r O nx ⟨rfl,rfl,rfl⟩;conv=>whnf
    repeat'(first|refine AU ?_|refine IW ?_ ?_<;>intro h<;>try omega)<;>conv=>whnf
    .replace hf:=hf _ rfl
     rw[show YQ (ZA A l) (some (ZA A l c',c')) cl=some (ZA A l cl,cl)by unfold YQ;exact zf (by omega),hx]at hf;exact u0.aA h0 [20,4] (.bool true) _ hf
    .replace hf:=hf _ rfl
     rw[show YQ (ZA A l) (some (ZA A l c',c')) cl=some (ZA A l c',c')by unfold YQ;exact z7 (by dsimp only;omega)]at hf;exact u0.aA h0 [18,19] (.bool true) _ hf
  .rw[Wa ho hs];have kg:=RZ hs;have Gt:A.length≠0:=by omega
   have jo:=BW cl (c:Int);have cg:∀t∈w9 cl (c:Int),t<cl.length:=fun t ht=>(jT.1 ht).1;have hpv:∀t∈w9 cl (c:Int),cl.getD t 0=(c:Int):=fun t ht=>(jT.1 ht).2;have bM:=ZcF cl (c:Int);have l8:=ZiR cl (c:Int)
   have hch:∀x,∀v∈XO cl (c:Int) x,0<=v/\v<10000:=fun x v hv=>by
    unfold XO at hv;obtain⟨y,hy,rfl⟩:=yc.1 hv;have au:=yj.1 hy;have h9:=hc.cs (cl.getD y 0) (by rw[zl,z1 au];exact zk au);split<;>omega
   have nZ:=Zaa cl (by omega);rw[ki]at nZ;obtain⟨xs,hxs⟩:∃xs,xs=w9 cl (c:Int):=⟨_,rfl⟩;rw[<-hxs]at jo cg hpv bM l8 h1⊢;conv=>whnf
   repeat'(first|((with_reducible refine rS.mk (fun h=>?_) ?_)<;>try omega))<;>conv=>whnf
   refine vZ.kj Z0 [0,4,5,8,31,32] [] (X:=Nat×Nat×List (List Int)) (fun x=>x.1<=xs.length/\x.2.1<=B/\n+1<=x.2.1/\(∀c∈x.2.2,wH A c)/\UI A l B k cl (c:Int) xs (n+1,Ls)=UI A l B k cl (c:Int) (xs.drop x.1) x.2)
    (fun x=>[(33, .int .i64 (x.1:Int))]) (fun x=>[(19, .rows 1 (cR (JV (ZA A l) x.2.2))),(18, .rows 16 (bR (JV (ZA A l) x.2.2))),(4, .rows 1 (cl.map Zg)),(3, .deep false 1 (wT (uQ A l))),(12, .box [.int .i64 (x.2.1:Int)]),(13, .lp .ready ic (Qh B)),(14, .box [bC (JV (ZA A l) x.2.2) 18]),(15, .box [cC (JV (ZA A l) x.2.2) 19]),(20, .rows 1 (xs.map Y8))]) 21 (fun x=>xs.length-x.1) (0,n+1,Ls) ⟨by simp,by dsimp only;omega,by dsimp only;omega,rM,rfl⟩ ?_
   conv=>whnf
   refine⟨?_,?_⟩
   .dsimp only;rw[<-hb];clear hb;cases b with
    |none=>exact vU.kA h0 [18,19,20]
    |some p=>exact vU.kA h0 [18,19,20]
   rintro⟨i,n1,L1⟩ ⟨hi,pF,hn2,rN,gJ⟩;dsimp only at hi pF hn2 rN gJ⊢;rw[gJ];clear gJ hb;obtain⟨b1,od⟩:∃b1,b1=JV (ZA A l) L1:=⟨_,rfl⟩;rw[<-od];conv=>whnf
   by_cases bf:i<xs.length
   .obtain⟨x,hx⟩:∃x,x=xs[i]:=⟨_,rfl⟩;have gX:∀{m:Nat},m=i->(xs.map Y8)[m]?=some (Y8 x):=fun e=>by subst e;rw[z6,z1 bf,<-hx];rfl
    have gJ:=Zf1 (A:=A) (l:=l) (B:=B) (k:=k) (cl:=cl) (c:=(c:Int)) (s:=(n1,L1)) bf (show ¬B<n1 by omega);rw[<-hx]at gJ;obtain⟨bx,hbx⟩:∃bx:jd,bx=b1:=⟨_,rfl⟩;cases b1
    all_goals
     conv=>whnf
     repeat'(first|refine GET.at (gX (by omega)) ?_|refine AU ?_|refine IW ?_ ?_<;>intro h<;>try omega)<;>conv=>whnf
     refine CALL.aA [4] (nZ) ?_;rintro r O nx ⟨rfl,rfl,rfl⟩;conv=>whnf
     skip
     refine vZ.kj Z0 [0,4,5,8,10,11,31,32,33,39,40] [] (X:=Nat) (fun y=>y<=xs.length) (fun y=>[(41, .int .i64 (y:Int))]) (fun y=>[(19, .rows 1 (cR bx)),(18, .rows 16 (bR bx)),(4, .rows 1 (cl.map Zg)),(3, .deep false 1 (wT (uQ A l))),(12, .box [.int .i64 (n1:Int)]),(13, .lp .ready ic (Qh B)),(14, .box [bC bx 18]),(15, .box [cC bx 19]),(20, .rows 1 (xs.map Y8)),(21, .rows 1 ((jF cl x (xs.take y)).map Zg))]) 22 (fun y=>xs.length-y) 0 (by omega) ?_;subst hbx;conv=>whnf
     refine⟨by rw[show xs.take 0=[]from rfl,Zgz];exact vU.kA h0 [18,19,20,21],?_⟩;intro y hy;conv=>whnf
     by_cases Ko:y<xs.length
     .obtain⟨t,ht⟩:∃t,t=xs[y]:=⟨_,rfl⟩;have FM:t∈xs:=by rw[ht];exact zk Ko
      have lT:=cg t FM;have Si:=hpv t FM;have gT:∀{m:Nat},m=y->(xs.map Y8)[m]?=some (Y8 t):=fun e=>by subst e;rw[z6,z1 Ko,<-ht];rfl
      have Sj:t∉xs.take y:=fun hm=>by
       obtain⟨m,sP,he⟩:=yM.1 hm;rw[xR]at he;rw[zq]at sP;exact absurd ((x9 bM).1 (he.trans ht)) (by omega)
      have hS:xs.take (y+1)=xs.take y++ [t]:=by rw[zH Ko,<-ht]
      generalize xs.take y=T at Sj hS⊢;have gN:∀{m:Nat},m=t->((jF cl x T).map Zg)[m]?=some (Zg (cl.getD t 0)):=fun e=>by subst e;rw[z6,ZiQ Sj lT];rfl
      rw[Si]at gN;repeat'(first|refine GET.at (gT (by omega)) ?_|refine GET.at (gN (by omega)) ?_|refine AU ?_|refine IW ?_ ?_<;>intro h<;>try omega)<;>conv=>whnf
      .have hst:=ZiP (cl:=cl) (x:=x) (T:=T) (show t≠x by omega) lT;rw[Si]at hst;refine⟨y+1,by omega,by omega,?_⟩;rw[U4 (x:=t) (by omega),show IntKind.i64.wrap ((c:Int)+1)=(c:Int)+1 from Z9 (by omega) (by omega),hst,<-hS];conv=>whnf
       exact vU.kA h0 [18,19,20,21]
      .have hte:t=x:=by omega
       subst hte;refine⟨y+1,by omega,by omega,?_⟩;rw[<-ZgA cl t T,<-hS];conv=>whnf
       exact vU.kA h0 [18,19,20,21]
     .have G7:y=xs.length:=by omega
      subst G7;rw[y8,l8 x];have A5:=RJ A l z lim (XO cl (c:Int) x) ⟨by rw[HO,ki],e8,hl,hnd,hmem,fun v hv=>hch x v hv⟩ hz;repeat'(first|(show uq _ _ _ _ _ _ _;first|refine Z4 17 ZgO ?_)|refine wh.mk (fun _ _=>?_)|refine qz.mk ?_ ?_|refine IW ?_ ?_<;>intro h<;>try omega)<;>conv=>whnf
      all_goals
       refine CALL.aA [0,1,2,3,21,5] (A5) ?_;rintro r O nx ⟨F,hF,rfl,rfl,rfl⟩;obtain⟨bX,nK⟩:=hF.ok;rw[HO]at bX nK;have hih:=ih n1 L1 F pF (by omega) ⟨by rw[bX,ki],fun v hv=>by rw[bX];exact nK v hv⟩ rN (fun e=>(Gt e).elim);rw[<-od]at hih;rw[HP hF]at gJ;obtain⟨s2,hs2⟩:∃s2,s2=Vr A l B k F (n1,L1):=⟨_,rfl⟩;have hge:=HQ (A:=A) (l:=l) (B:=B) k F (n1,L1);rw[<-hs2]at hih gJ hge;rw[gJ];dsimp only at hge;conv=>whnf
       repeat'(first|refine AD ?_)<;>conv=>whnf
       refine CALL.aA [0,1,2,3,22,5,6,7,8,9,10,11,12,13,14,15,18,19] (hih) ?_;rintro r O nx ⟨rO,rfl,rfl,rfl⟩;obtain⟨b2,aS⟩:∃b2,b2=JV (ZA A l) s2.2:=⟨_,rfl⟩;rw[<-aS];conv=>whnf
       repeat'(first|refine IW ?_ ?_<;>intro h<;>try omega)<;>conv=>whnf
       .have kB:B<s2.1:=by omega
        rw[Vs kB];have hf:Gr A l B s2 (.bool false) (aL A l B s2.1 b2 18 19) 20:=⟨rO,z8 SV.bool (y5 (by omega)).symm,by rw[aS],rfl⟩;clear aS;cases b2 with
        |none=>exact u0.aA h0 [23,24] (.bool false) (aL A l B s2.1 none 18 19) hf
        |some p=>exact u0.aA h0 [23,24] (.bool false) (aL A l B s2.1 (some p) 18 19) hf
       .refine⟨(i+1,s2),⟨by dsimp only;omega,by dsimp only;omega,by dsimp only;omega,rO,rfl⟩,by dsimp only;omega,?_⟩;dsimp only;rw[<-aS];clear aS;cases b2 with
        |none=>
         conv=>whnf
         exact vU.kA h0 [23,24,20]
        |some p=>
         conv=>whnf
         exact vU.kA h0 [23,24,20]
   .have hie:i=xs.length:=by omega
    subst hie;rw[vw];have hf:Gr A l B (n1,L1) (.bool true) (aL A l B n1 b1 18 19) 20:=⟨rN,z8 SV.bool (yq pF).symm,by rw[od],rfl⟩;clear od;repeat'(first|refine AU ?_|((with_reducible refine rS.mk (fun h=>?_) ?_)<;>try omega)|refine IW ?_ ?_<;>intro h<;>try omega)<;>conv=>whnf
    cases b1 with
    |none=>exact u0.aA h0 [18,19] (.bool true) (aL A l B n1 none 18 19) hf
    |some p=>exact u0.aA h0 [18,19] (.bool true) (aL A l B n1 (some p) 18 19) hf
end Go.Proofs.YtlcbipfmodcedaaGreatDoor
