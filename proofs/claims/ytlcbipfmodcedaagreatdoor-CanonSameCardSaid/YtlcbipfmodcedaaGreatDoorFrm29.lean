/- Part 29: Can1. Conditions: as each part says. -/
import Derived.Test.YtlcbipfmodcedaaGreatDoorFrm27
import Derived.Test.YtlcbipfmodcedaaGreatDoorFrm28
set_option linter.unusedVariables false
set_option linter.unusedSimpArgs false
set_option maxRecDepth 20000
set_option maxHeartbeats 8000000
namespace Go.Proofs.YtlcbipfmodcedaaGreatDoor
open Go.Sx Go.Our Go.Lib
open _root_.Go.Proofs.Tryz
def Ziy:uu:=(Zs [(0,1),(1,1),(2,1),(3,1),(4,1),(5,1),(6,1),(7,1),(8,1),(9,1),(10,1),(11,1),(12,1),(13,0)])
def Hx:uu:=(Zs [(0,1),(1,1),(2,1),(4,1),(5,1),(6,1),(3,2),(7,2),(8,3),(9,1)])
def Hy:uu:=(Zs [(0,1),(1,1),(2,1),(4,1),(3,2),(5,1),(6,2),(7,1),(8,1),(9,1),(10,1),(11,1),(12,1),(14,1),(17,1),(18,1),(19,1),(21,1),(28,1),(13,2),(15,1),(16,2),(20,2),(22,1),(23,2),(24,1),(25,1),(26,1),(27,2),(29,1),(30,1)])
def Hz:uu:=(.take 0 1 (.take 1 1 (.take 2 1 (.take 4 1 (.take 5 1 (.take 6 1 (.take 7 1 (.take 9 1 (.take 12 1 (.take 8 2 (.take 10 1 (.take 11 2 (.fork 3 3 13 3 (Zs [(13,3),(14,0),(15,1),(16,0)]) (.fork 3 3 14 0 (Zs [(14,0),(15,1),(16,0)]) (Zs [(3,2),(15,1),(16,0)])))))))))))))))
theorem Re(q:Qd):vS prog uf 62 1 [.ptr (.loc 0) 0 0 0] [] [(0, .box (Z3 q))]
 (fun r O nx=>r= .arr 1 [[.ptr (.loc 0) 0 0 0],[.ptr (.loc 0) 0 0 4],[.ptr (.loc 0) 0 0 8],[.ptr (.loc 0) 0 0 12]]/\O=[]/\nx=1):=by
 refine vS.enter Z0 call62 func62 rfl 16 rfl rfl [.cell 2 100] rfl ?_;intro w0 F η0 h0;conv=>whnf
 repeat'(first|(show uq _ _ _ _ _ _ _;first|refine Z4 1 Ziy ?_)|refine wh.mk (fun _ _=>?_)|refine AD ?_|refine qz.mk ?_ ?_|refine AU ?_|refine IW ?_ ?_<;>intro h<;>try omega)<;>conv=>whnf
 exact u0.aA h0 [] (.arr 1 [[.ptr (.loc 0) 0 0 0],[.ptr (.loc 0) 0 0 4],[.ptr (.loc 0) 0 0 8],[.ptr (.loc 0) 0 0 12]]) [] ⟨rfl,rfl,rfl⟩
theorem iR:∀(k n:Nat),n<10^ (k+1)->(decDigits n).length<=k+1
 |0,n,h=>by rw[decDigits,yp (by simpa using h)];simp
 |k+1,n,h=>by
  rw[decDigits];split
  simp
  .have:=iR k (n/10) (by rw[Nat.pow_succ]at h;omega);rw[zh,List.length_singleton];omega
theorem Z9U(n:Nat)(hn:n<10000):vS prog uf 135 0 [.int .i64 (n:Int)] [] [] (uN (.str (o8 n))):=by
 have hi:itoa (n:Int)=decDigits n:=by unfold itoa;rw[z7 (by omega)];simp
 have hl:=iR 3 n (by simpa using hn)
 have hd:List.drop (decDigits n).length ([48,48,48,48]:List UInt8)=List.replicate (4-(decDigits n).length) 48:=by
  rw[show([48,48,48,48]:List UInt8)=List.replicate 4 48 from rfl,List.drop_replicate]
 refine vS.enter Z0 call135 func135 rfl 11 rfl rfl [.tmp 2] rfl ?_;intro w0 F η0 h0;conv=>whnf
 repeat'(first|refine CALL.value (Ba (n:Int) ⟨by omega,by omega⟩) rfl rfl ?_|rw[hi];refine u6.mk ⟨by omega,by show((decDigits n).length:Int)<=(4:Int);omega⟩ ?_;rw[Int.toNat_natCast,show(ByteArray.mk #[48,48,48,48]).data.toList=[48,48,48,48]from rfl,hd]|refine u6.mk (by rw[yK,hi];omega) ?_|refine AU ?_|refine IW ?_ ?_<;>intro h<;>try omega)<;>conv=>whnf
 exact u0.value h0 rfl rfl
def l5(l:List Nat):List DC:=[.uA 1 (l.map Y8)]
def wT(I:List (List Nat)):List (List DC):=I.map l5
theorem Bk(l:List Nat):Zj (l.map Y8)=true:=ZD _ (fun _=>rfl) l
theorem Rf:∀I:List (List Nat),ZB (wT I)=true
 | []=>rfl
 |l::I=>by simp only[wT,zG,l5,ZB,Yr,JN,Bk,zB,xd];exact Rf I
instance {I:List (List Nat)}:bu (wT I):=⟨Rf I⟩
theorem UE{I:List (List Nat)}{i:Nat}(h:i<I.length):(wT I)[i]?=some (l5 I[i]):=by unfold wT;rw[z6,z1 h];rfl
theorem Ziz{I:List (List Nat)}{i k:Nat}(h:i<I.length)(hk:k=i):ot (wT I) k 0=some (k, .uA 1 (I[i].map Y8)):=by
 subst hk;unfold ot;rw[UE h];rfl
theorem Rg(n:Nat):Hi (List.replicate n [SV.val (.slice none 0 0)]) (wT (List.replicate n [])):=by
 refine⟨by simp[wT],fun a row' h=>?_⟩;unfold wT at h;rw[x5]at h;obtain⟨ha,hr⟩:=ze.1 h;rw[yK]at ha;rw[List.getElem_replicate]at hr;subst hr;refine⟨_,by rw[vN,zf ha],?_⟩;exact And.intro (.inr ⟨rfl,1,rfl⟩) trivial
theorem Rh{I:List (List Nat)}{i k n:Nat}{sv:SV}(h:i<I.length)(hk:k=i)(hn:n=I[i].length):uB (uB (wT I) k 0 (.v sv)) i 0 (.uA 1 ((I[i].map Y8).take n))=wT I:=Zix (es:=1) (f:=Y8) h hk hn
theorem Bl{I:List (List Nat)}{j:Nat}{s:Nat}{sv:SV}{rows:List (List SV)}{k i:Nat}(hn:j<I.length)(hi:i=j)(hr:rows.take k=(I[j]++ [s]).map Y8):
 ((uB (wT I) j 0 (.v sv)).modify i fun row=>row.set 0 (.uA 1 (rows.take k)))=wT (I.modify j (· ++ [s])):=by
 subst hi;show uB _ _ _ _=_
 rw[qZ,hr];apply yu;intro a;rw[Yl];unfold wT;simp only[z6,yo];by_cases ha:a=i
 .subst ha;rw[zf rfl,z1 hn];simp[l5]
 .rw[z7 ha];cases I[a]?<;>simp[yY ha]
def Bm(n:Nat)(lim:Option Nat)(nl:Nat):Hp:= .box [.sl (.loc 0) 0 16 n lim, .sl (.loc 2) 0 1 nl (some nl), .mp (.loc 3), .sl (.loc 4) 0 1 nl none]
def uQ(A:List LB)(l:List Qd):List (List Nat):=(List.range A.length).map (cc A l)
def Zkd(l:List Qd)(lim:Option Nat):SV->vX->Nat->Prop:=fun r O nx=>
 ((YL l).2≠0/\r= .uz [.val (.pointer none), .int .i64 (YL l).2]/\O=[]/\nx=1)\/
 ((YL l).2=0/\4096< (ZQ l).length/\r= .uz [.val (.pointer none), .int .i64 2]/\O=[]/\nx=1)\/
 ((YL l).2=0/\(ZQ l).length<=4096/\r= .uz [.ptr (.loc 1) 0 0 0, .int .i64 0]/\nx=5/\∃j,j+(ZQ l).length<=(Zz l).length/\
   O=[(1,Bm l.length lim (ZQ l).length),(2, .rows 1 ((ZQ l++List.replicate j []).map Ze)),(3, .mp (qb (Xr 0 (ZQ l) (ZQ l).length))),(4, .deep false 1 (wT (uQ (ZQ l) l)))])
theorem Z9X{J:Type}(L:List J):L=[]\/∃c j,L=c++ [j]:=by
 by_cases h:L=[]
 exact .inl h;exact .inr ⟨L.dropLast,L.getLast h,(List.dropLast_concat_getLast h).symm⟩
theorem Zcu(l z:List Qd)(lim:Option Nat)(hl:JS l)(ql:tJ l)(hz:(l++z).length<=1152921504606846976):
 vS prog uf 30 1 [.sl (.loc 0) 0 16 l.length lim] [] [(0, .rows 16 ((l++z).map Z3))] (Zkd l lim):=by
 have hv:=Z9M l z lim (by unfold JS at hl;omega) ql;have kP:=Z9s l z lim hl hz;have hAl:(ZQ l).length<=l.length*4:=zO (Km _) (FT _ Ut _);have hnd:(ZQ l).Nodup:=XB qA (X6 qA _);have hmem:∀x∈Zz l,x∈ZQ l:=fun x hx=>(JI _ _).2 hx;refine vS.enter Z0 call30 func30 rfl 135 rfl rfl [.tmp 2, .tmp 3] rfl ?_;intro w0 F η0 h0;conv=>whnf
 repeat'(first|refine AU ?_|refine IW ?_ ?_<;>intro h<;>try omega)<;>conv=>whnf
 refine CALL.aA [0] (hv) ?_;rintro r O nx ⟨rfl,rfl,rfl⟩;conv=>whnf
 repeat'(first|refine AU ?_|refine IW ?_ ?_<;>intro h<;>try omega)<;>conv=>whnf
 exact u0.aA h0 [] (.uz [.val (.pointer none), .int .i64 (YL l).2]) [] (.inl ⟨by omega,rfl,rfl,rfl⟩);refine CALL.aA [0] (kP) ?_;rintro r O nx ⟨jj,hjj,rfl,rfl,rfl⟩;have wK:wj Our.cmpL (Zz l)=ZQ l:=rfl;rw[wK]at hjj⊢;conv=>whnf
 repeat'(first|refine AU ?_|refine IW ?_ ?_<;>intro h<;>try omega)<;>conv=>whnf
 exact u0.aA h0 [] (.uz [.val (.pointer none), .int .i64 2]) [] (.inr (.inl ⟨‹_›,by omega,rfl,rfl,rfl⟩));have qu:(YL l).2=0:= ‹_›;have e8:(ZQ l).length<=4096:=by omega
 obtain⟨dR,dF⟩:=Wy qu;have Bn:l.length<=1048576:=dF;obtain⟨A,hA⟩:∃A,A=ZQ l:=⟨_,rfl⟩;rw[<-hA]at hAl hnd hmem hjj e8⊢;refine vZ.kj Z0 [0,6,37,38] [] (X:=Nat) (fun i=>i<=A.length) (fun i=>[(39, .int .i64 (i:Int))]) (fun i=>[(1, .rows 1 ((A++List.replicate jj []).map Ze)),(2, .mp (qb (Xr 0 A i))),(3, .box [.sl (.loc 0) 0 16 l.length lim, .sl (.loc 1) 0 1 A.length (some A.length), .mp (.loc 2), .val (.slice none 0 0)])]) 4 (fun i=>A.length-i) 0 (by omega) ?_;conv=>whnf
 refine⟨by exact vU.cA h0,?_⟩;intro i hi;conv=>whnf
 by_cases hlt:i<A.length
 .have hs:=Bc (b:=0) hlt;rw[Int.zero_add]at hs;have gA:∀{k:Nat},k=i->((A++List.replicate jj []).map Ze)[k]?=some (Ze A[i]):=fun e=>by subst e;rw[z6,zn hlt,z1 hlt];rfl
  repeat'(first|refine GET.at (gA (by omega)) ?_|refine u6.mk ⟨KT.ok _,JR KT _ _⟩ ?_|refine AU ?_|refine IW ?_ ?_<;>intro h<;>try omega)<;>conv=>whnf
  first|rw[B3,<-hs]|rw[B4,<-hs]
  refine⟨i+1,by omega,by omega,?_⟩;conv=>whnf
  exact vU.cA h0
 have hie:i=A.length:=by omega
 subst hie;clear hlt;repeat'(first|refine u6.mk (Uw 24 rfl (by omega) (by omega) (by omega) (by omega)) ?_|refine AU ?_|refine IW ?_ ?_<;>intro h<;>try omega)<;>conv=>whnf
 refine uT.loop (uT.dS 4 (wT (List.replicate A.length [])) rfl (by rw[Int.toNat_natCast];exact Rg _)) ?_;rw[Int.toNat_natCast];have l6:=G2 (b:=0) hnd;refine vZ.kj Z0 [6,60,61] [] (X:=Nat) (fun k=>k<=l.length) (fun k=>[(62, .int .i64 (k:Int))]) (fun k=>[(1, .rows 1 ((A++List.replicate jj []).map Ze)),(2, .mp (qb (Xr 0 A A.length))),(3, .box [.sl (.loc 0) 0 16 l.length lim, .sl (.loc 1) 0 1 A.length (some A.length), .mp (.loc 2), .sl (.loc 4) 0 1 A.length none]),(4, .deep false 1 (wT ((List.range A.length).map (oK A l k))))]) 5 (fun k=>l.length-k) 0 (by omega) ?_;conv=>whnf
 refine⟨by rw[R4];exact vU.cA h0,?_⟩;intro k hk;conv=>whnf
 by_cases av:k<l.length
 .have gQ:∀{m:Nat},m=k->((l++z).map Z3)[m]?=some (Z3 l[k]):=fun e=>by subst e;rw[z6,zn av,z1 av];rfl
  obtain⟨q,hq⟩:∃q,q=l[k]:=⟨_,rfl⟩;rw[<-hq]at gQ;have hT:=Re q;have dr:∀s∈Zw q,s∈A:=fun s hs=>hmem s (xV.2 ⟨q,by rw[hq];exact zk av,hs⟩);repeat'(first|refine GET.at (gQ (by omega)) ?_|refine AU ?_|refine IW ?_ ?_<;>intro h<;>try omega)<;>conv=>whnf
  refine CALL.aA [5] (hT) ?_;rintro r O nx ⟨rfl,rfl,rfl⟩;conv=>whnf
  repeat'(first|refine AU ?_|refine IW ?_ ?_<;>intro h<;>try omega)<;>conv=>whnf
  rw[<-R3];refine vZ.kj Z0 [6,9,60,61,62,67] [] (X:=Nat) (fun x=>x<=4) (fun x=>[(68, .int .i64 (x:Int))]) (fun x=>[(1, .rows 1 ((A++List.replicate jj []).map Ze)),(2, .mp (qb (Xr 0 A A.length))),(3, .box [.sl (.loc 0) 0 16 l.length lim, .sl (.loc 1) 0 1 A.length (some A.length), .mp (.loc 2), .sl (.loc 4) 0 1 A.length none]),(4, .deep false 1 (wT (J3 A l k (((nY q).take x).flatMap Y0)))),(5, .box (Z3 q))]) 6 (fun x=>4-x) 0 (by omega) ?_;conv=>whnf
  refine⟨by exact vU.cA h0,?_⟩;intro x Ri;conv=>whnf
  by_cases hx:x<4
  .obtain⟨t,ht⟩:∃t,(nY q)[x]?=some t:=⟨_,z1 (by simpa[nY]using hx)⟩;have hS:((nY q).take (x+1)).flatMap Y0=((nY q).take x).flatMap Y0++Y0 t:=by rw[List.take_add_one,ht];simp
   have hsub:∀s∈Y0 t,s∈A:=fun s hs=>dr s (by have:=zV ht;simp only[nY,zL,xq,or_false]at this;unfold Zw;rcases this with rfl|rfl|rfl|rfl<;>simp[hs]);obtain⟨X,hX⟩:∃X,X=x:=⟨_,rfl⟩;obtain⟨T,l7⟩:∃T,T=((nY q).take x).flatMap Y0:=⟨_,rfl⟩;rw[<-l7,<-hX]at hS;rw[<-l7];clear l7;have hxc:x=0\/x=1\/x=2\/x=3:=by omega
   rcases q with⟨s0,p0,o0,g0⟩
   rcases hxc with rfl|rfl|rfl|rfl
   all_goals
    have ht:=(Option.some.inj ht).symm;subst ht;repeat'(first|refine u6.mk ⟨by omega,by omega,rfl⟩ ?_|refine GET.at (row:=_) rfl ?_|(show uq _ _ _ _ _ _ _;first|refine Z4 20 Hx ?_|refine Z4 21 Hy ?_|refine Z4 22 Hz ?_)|refine wh.mk (fun _ _=>?_)|refine AD ?_|refine qz.mk ?_ ?_|refine AU ?_|refine IW ?_ ?_<;>intro h<;>try omega)<;>conv=>whnf
    .rw[show Y0 t=[]from z7 h,zP]at hS;refine⟨X+1,by omega,by omega,?_⟩;rw[hS];conv=>whnf
     exact vU.cA h0
    have h2:t.k=2:=h;have Lp:Y0 t=[t.t]:=zf h2;rw[Lp]at hS hsub;have bT:t.t∈A:=hsub _ (vO _);have qc:=y7 bT;have og:A[A.idxOf t.t]=t.t:=yI qc;have bf:oJ 0 A t.t=((A.idxOf t.t:Nat):Int):=by unfold oJ;rw[zf bT];omega
    generalize A.idxOf t.t=n0 at qc og bf;refine u6.mk ⟨KT.ok _,JR KT jC _⟩ ?_;refine eu.A KT jC t.t (Xr 0 A A.length) (fun i v hf=>?_) (fun hf=>?_)
    .have hv:=G1 hf;rw[l6,bf]at hv;subst hv;conv=>whnf
     have cm:n0< (J3 A l k T).length:=by rw[Vq];exact qc
     have HA:(J3 A l k T)[n0].length<=1048577:=by have:=R2 _ (zk cm);omega
     refine uT.drawn (uT.take 4 n0 0 rfl (UE cm) rfl) ?_;rw[show(List.map Y8 (J3 A l k T)[n0]).length=(J3 A l k T)[n0].length from zy ..];obtain⟨L,hL⟩:∃L,L=(J3 A l k T)[n0]:=⟨_,rfl⟩;have uE:=Zct (A:=A) (l:=l) (k:=k) (T:=T) qc;rw[<-hL]at uE HA⊢;rcases Z9X L with tR|⟨c,j,tR⟩
     .have ny:A[n0]∉T:=fun hm=>by
       obtain⟨c,hc⟩:=uE.2 hm;rw[tR]at hc;simp at hc
      have gL:∀{m:Nat},m+1=0->(L.map Y8)[m]?=some []:=fun h=>by omega
      have hLz:L.length=0:=by rw[tR];rfl
      clear uE dr hmem gQ hT kP wK;repeat'(first|(show uq _ _ _ _ _ _ _;first|refine Z4 20 Hx ?_|refine Z4 21 Hy ?_|refine Z4 22 Hz ?_)|refine wh.mk (fun _ _=>?_)|refine AD ?_|refine qz.mk ?_ ?_|refine GET.at (by rw[zx];exact Hj (UE cm)) ?_|refine wV.at (by rw[zx];exact Ho (UE cm)) ?_|refine GET.at (gL (by rw[Z9 (by omega) (by omega)];omega)) ?_|refine u6.mk (Zn 8 rfl rfl (by simp) (by simp) (by omega)) ?_|refine AU ?_|refine IW ?_ ?_<;>intro h<;>try omega)<;>conv=>whnf
      all_goals first|(exfalso;omega)|skip
      all_goals
       rw[Bl cm (by omega) (s:=k) (by rw[<-hL];rw[zg (by simp),zg (by simp)];simp[Y8]),<-Bh hnd qc ny,og,<-hS];refine⟨X+1,by omega,by omega,?_⟩;conv=>whnf
       exact vU.cA h0
     .have gL:∀{m:Nat},m+1=L.length->(L.map Y8)[m]?=some (Y8 j):=fun{m} h=>by
       rw[tR]at h⊢;have h:m=c.length:=by simp at h;omega
       subst h;rw[z6,zw (zo _)];simp
      have hLz:L.length=c.length+1:=by rw[tR];simp
      by_cases hjk:j=k
      .have ny:A[n0]∈T:=uE.1 ⟨c,by rw[tR,hjk]⟩;clear uE dr hmem gQ hT kP wK;repeat'(first|(show uq _ _ _ _ _ _ _;first|refine Z4 20 Hx ?_|refine Z4 21 Hy ?_|refine Z4 22 Hz ?_)|refine wh.mk (fun _ _=>?_)|refine AD ?_|refine qz.mk ?_ ?_|refine GET.at (by rw[zx];exact Hj (UE cm)) ?_|refine wV.at (by rw[zx];exact Ho (UE cm)) ?_|refine GET.at (gL (by rw[Z9 (by omega) (by omega)];omega)) ?_|refine u6.mk (Zn 8 rfl rfl (by simp) (by simp) (by omega)) ?_|refine AU ?_|refine IW ?_ ?_<;>intro h<;>try omega)<;>conv=>whnf
       all_goals first|(exfalso;omega)|skip
       rw[og]at ny;refine⟨X+1,by omega,by omega,?_⟩;rw[hS,ZeJ ny];conv=>whnf
       refine vU.trans (uT.goes (uT.fI 4 n0 0 6 rfl (Rc cm rfl) rfl rfl (by rw[zy];exact zo _) (by decide))) ?_;rw[hL,Rh cm rfl rfl];exact vU.cA h0
      .have ny:A[n0]∉T:=fun hm=>by
        obtain⟨c',eY⟩:=uE.2 hm;rw[tR]at eY;exact hjk (by simpa using(List.append_inj' eY rfl).2)
       clear uE dr hmem gQ hT kP wK;repeat'(first|(show uq _ _ _ _ _ _ _;first|refine Z4 20 Hx ?_|refine Z4 21 Hy ?_|refine Z4 22 Hz ?_)|refine wh.mk (fun _ _=>?_)|refine AD ?_|refine qz.mk ?_ ?_|refine GET.at (by rw[zx];exact Hj (UE cm)) ?_|refine wV.at (by rw[zx];exact Ho (UE cm)) ?_|refine GET.at (gL (by rw[Z9 (by omega) (by omega)];omega)) ?_|refine u6.mk (Zn 8 rfl rfl (by simp) (by simp) (by omega)) ?_|refine AU ?_|refine IW ?_ ?_<;>intro h<;>try omega)<;>conv=>whnf
       all_goals first|(exfalso;omega)|skip
       all_goals
        rw[Bl cm (by omega) (s:=k) (by rw[<-hL];rw[zg (by simp),zg (by simp)];simp[Y8]),<-Bh hnd qc ny,og,<-hS];refine⟨X+1,by omega,by omega,?_⟩;conv=>whnf
        exact vU.cA h0
    .have hg:=tQ (b:=0) hnd A.length t.t (zo _);rw[Uq hf,<-og,hnd.idxOf_getElem n0 qc,yp qc]at hg;cases hg
  .have Ri:x=4:=by omega
   subst Ri;have G9:((nY q).take 4).flatMap Y0=Zw q:=by simp[nY,Zw]
   rw[G9,R5 av (fun s _=>by rw[hq])];repeat'(first|refine AU ?_|refine IW ?_ ?_<;>intro h<;>try omega)<;>conv=>whnf
   refine⟨k+1,by omega,by omega,?_⟩;conv=>whnf
   exact vU.cA h0
 .have hke:k=l.length:=by omega
  subst hke;repeat'(first|refine AU ?_|refine IW ?_ ?_<;>intro h<;>try omega)<;>conv=>whnf
  refine u0.aA h0 [3,1,2,4] (.uz [.ptr (.loc 1) 0 0 0, .int .i64 0]) [(1,Bm l.length lim A.length),(2, .rows 1 ((A++List.replicate jj []).map Ze)),(3, .mp (qb (Xr 0 A A.length))),(4, .deep false 1 (wT (uQ A l)))] (.inr (.inr ⟨qu,by rw[<-hA];omega,rfl,rfl,jj,by rw[<-hA];omega,by rw[<-hA]⟩))
end Go.Proofs.YtlcbipfmodcedaaGreatDoor
