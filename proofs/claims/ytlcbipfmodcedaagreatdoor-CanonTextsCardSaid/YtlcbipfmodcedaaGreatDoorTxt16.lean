import Derived.Test.YtlcbipfmodcedaaGreatDoorTxt14
set_option linter.unusedVariables false
set_option linter.unusedSimpArgs false
set_option maxRecDepth 20000
set_option maxHeartbeats 8000000
namespace Go.Proofs.YtlcbipfmodcedaaGreatDoor
open Go.Sx Go.Our Go.Lib
open _root_.Go.Proofs.Tryz
def Zk3:wP:=(Zr [(0,1),(1,1),(2,1),(3,1),(4,1),(5,1),(6,1),(7,1),(8,1),(9,1),(10,1),(11,1),(12,1),(13,0)])
def D3:wP:=(Zr [(0,1),(1,1),(2,1),(4,1),(5,1),(6,1),(3,2),(7,2),(8,3),(9,1)])
def D4:wP:=(Zr [(0,1),(1,1),(2,1),(4,1),(3,2),(5,1),(6,2),(7,1),(8,1),(9,1),(10,1),(11,1),(12,1),(14,1),(17,1),(18,1),(19,1),(21,1),(28,1),(13,2),(15,1),(16,2),(20,2),(22,1),(23,2),(24,1),(25,1),(26,1),(27,2),(29,1),(30,1)])
def D5:wP:=(.take 0 1 (.take 1 1 (.take 2 1 (.take 4 1 (.take 5 1 (.take 6 1 (.take 7 1 (.take 9 1 (.take 12 1 (.take 8 2 (.take 10 1 (.take 11 2 (.fork 3 3 13 3 (Zr [(13,3),(14,0),(15,1),(16,0)]) (.fork 3 3 14 0 (Zr [(14,0),(15,1),(16,0)]) (Zr [(3,2),(15,1),(16,0)])))))))))))))))
theorem TG(q:Qd):uX prog wD 62 1 [.ptr (.loc 0) 0 0 0] [] [(0, .box (Z4 q))]
 (fun r O nx=>r= .arr 1 [[.ptr (.loc 0) 0 0 0],[.ptr (.loc 0) 0 0 4],[.ptr (.loc 0) 0 0 8],[.ptr (.loc 0) 0 0 12]]/\O=[]/\nx=1):=by
 refine uX.enter Z0 call62 func62 rfl 16 rfl rfl [.cell 2 100] rfl ?_;intro w0 F η0 h0;conv=>whnf
 repeat'(first|(show wO _ _ _ _ _ _ _;first|refine Z3 1 Zk3 ?_)|refine qJ.mk (fun _ _=>?_)|refine AD ?_|refine j9.mk ?_ ?_|refine AU ?_|refine IW ?_ ?_<;>intro h<;>try omega)<;>conv=>whnf
 exact wh.aA h0 [] (.arr 1 [[.ptr (.loc 0) 0 0 0],[.ptr (.loc 0) 0 0 4],[.ptr (.loc 0) 0 0 8],[.ptr (.loc 0) 0 0 12]]) [] ⟨rfl,rfl,rfl⟩
theorem Wn:∀(k n:Nat),n<10^ (k+1)->(decDigits n).length<=k+1
 |0,n,h=>by rw[decDigits,yg (by simpa using h)];simp
 |k+1,n,h=>by
  rw[decDigits];split
  simp
  .have:=Wn k (n/10) (by rw[Nat.pow_succ]at h;omega);rw[zg,List.length_singleton];omega
theorem ZaU(n:Nat)(hn:n<10000):uX prog wD 135 0 [.int .i64 (n:Int)] [] [] (qd (.str (ny n))):=by
 have hi:itoa (n:Int)=decDigits n:=by unfold itoa;rw[z7 (by omega)];simp
 have hl:=Wn 3 n (by simpa using hn)
 have hd:List.drop (decDigits n).length ([48,48,48,48]:List UInt8)=List.replicate (4-(decDigits n).length) 48:=by
  rw[show([48,48,48,48]:List UInt8)=List.replicate 4 48 from rfl,List.drop_replicate]
 refine uX.enter Z0 call135 func135 rfl 11 rfl rfl [.tmp 2] rfl ?_;intro w0 F η0 h0;conv=>whnf
 repeat'(first|refine CALL.value (AO (n:Int) ⟨by omega,by omega⟩) rfl rfl ?_|rw[hi];refine wm.mk ⟨by omega,by show((decDigits n).length:Int)<=(4:Int);omega⟩ ?_;rw[Int.toNat_natCast,show(ByteArray.mk #[48,48,48,48]).data.toList=[48,48,48,48]from rfl,hd]|refine wm.mk (by rw[yN,hi];omega) ?_|refine AU ?_|refine IW ?_ ?_<;>intro h<;>try omega)<;>conv=>whnf
 exact wh.value h0 rfl rfl
def QE(l:List Nat):List DC:=[.wZ 1 (l.map Yf)]
def kL(I:List (List Nat)):List (List DC):=I.map QE
theorem Zk4(l:List Nat):Zp (l.map Yf)=true:=ZH _ (fun _=>rfl) l
theorem ZmB:∀I:List (List Nat),YU (kL I)=true
 | []=>rfl
 |l::I=>by simp only[kL,zI,QE,YU,JM,ia,Zk4,zD,vo];exact ZmB I
instance {I:List (List Nat)}:GO (kL I):=⟨ZmB I⟩
theorem UW{I:List (List Nat)}{i:Nat}(h:i<I.length):(kL I)[i]?=some (QE I[i]):=by unfold kL;rw[z6,z1 h];rfl
theorem Zk5{I:List (List Nat)}{i k:Nat}(h:i<I.length)(hk:k=i):nK (kL I) k 0=some (k, .wZ 1 (I[i].map Yf)):=by
 subst hk;unfold nK;rw[UW h];rfl
theorem TH(n:Nat):ER (List.replicate n [SV.val (.slice none 0 0)]) (kL (List.replicate n [])):=by
 refine⟨by simp[kL],fun a row' h=>?_⟩;unfold kL at h;rw[x8]at h;obtain⟨ha,hr⟩:=zf.1 h;rw[yN]at ha;rw[u0]at hr;subst hr;refine⟨_,by rw[vW,zh ha],?_⟩;exact And.intro (.inr ⟨rfl,1,rfl⟩) trivial
theorem TI{I:List (List Nat)}{i k n:Nat}{sv:SV}(h:i<I.length)(hk:k=i)(hn:n=I[i].length):q9 (q9 (kL I) k 0 (.v sv)) i 0 (.wZ 1 ((I[i].map Yf).take n))=kL I:=ZjX (es:=1) (f:=Yf) h hk hn
theorem O5{I:List (List Nat)}{j:Nat}{s:Nat}{sv:SV}{rows:List (List SV)}{k i:Nat}(hn:j<I.length)(hi:i=j)(hr:rows.take k=(I[j]++ [s]).map Yf):
 ((q9 (kL I) j 0 (.v sv)).modify i fun row=>row.set 0 (.wZ 1 (rows.take k)))=kL (I.modify j (· ++ [s])):=by
 subst hi;show q9 _ _ _ _=_
 rw[jV,hr];apply yx;intro a;rw[Ys];unfold kL;simp only[z6,yp];by_cases ha:a=i
 .subst ha;rw[zh rfl,z1 hn];simp[QE]
 .rw[z7 ha];cases I[a]?<;>simp[yX ha]
def O6(n:Nat)(lim:Option Nat)(nl:Nat):Hp:= .box [.sl (.loc 0) 0 16 n lim, .sl (.loc 2) 0 1 nl (some nl), .mp (.loc 3), .sl (.loc 4) 0 1 nl none]
def qv(A:List LB)(l:List Qd):List (List Nat):=(List.range A.length).map (au A l)
def ZlX(l:List Qd)(lim:Option Nat):SV->w9->Nat->Prop:=fun r O nx=>
 ((ZK l).2≠0/\r= .wM [.val (.pointer none), .int .i64 (ZK l).2]/\O=[]/\nx=1)\/
 ((ZK l).2=0/\4096< (ZA l).length/\r= .wM [.val (.pointer none), .int .i64 2]/\O=[]/\nx=1)\/
 ((ZK l).2=0/\(ZA l).length<=4096/\r= .wM [.ptr (.loc 1) 0 0 0, .int .i64 0]/\nx=5/\∃j,j+(ZA l).length<=(ZE l).length/\
   O=[(1,O6 l.length lim (ZA l).length),(2, .rows 1 ((ZA l++List.replicate j []).map Zh)),(3, .mp (kU (Xt 0 (ZA l) (ZA l).length))),(4, .deep false 1 (kL (qv (ZA l) l)))])
theorem ZaW{J:Type}(L:List J):L=[]\/∃c j,L=c++ [j]:=by
 by_cases h:L=[]
 exact .inl h;exact .inr ⟨L.dropLast,L.getLast h,(List.dropLast_concat_getLast h).symm⟩
theorem ZdF(l z:List Qd)(lim:Option Nat)(hl:Xs l)(ql:nC l)(hz:(l++z).length<=1152921504606846976):
 uX prog wD 30 1 [.sl (.loc 0) 0 16 l.length lim] [] [(0, .rows 16 ((l++z).map Z4))] (ZlX l lim):=by
 have hv:=SF l z lim (by unfold Xs at hl;omega) ql;have gD:=ZaQ l z lim hl hz;have hAl:(ZA l).length<=l.length*4:=zP (Kk _) (EP _ UM _);have hnd:(ZA l).Nodup:=YZ jO (YY jO _);have hmem:∀x∈ZE l,x∈ZA l:=fun x hx=>(X4 _ _).2 hx;refine uX.enter Z0 call30 func30 rfl 135 rfl rfl [.tmp 2, .tmp 3] rfl ?_;intro w0 F η0 h0;conv=>whnf
 repeat'(first|refine AU ?_|refine IW ?_ ?_<;>intro h<;>try omega)<;>conv=>whnf
 refine CALL.aA [0] (hv) ?_;rintro r O nx ⟨rfl,rfl,rfl⟩;conv=>whnf
 repeat'(first|refine AU ?_|refine IW ?_ ?_<;>intro h<;>try omega)<;>conv=>whnf
 exact wh.aA h0 [] (.wM [.val (.pointer none), .int .i64 (ZK l).2]) [] (.inl ⟨by omega,rfl,rfl,rfl⟩);refine CALL.aA [0] (gD) ?_;rintro r O nx ⟨jj,hjj,rfl,rfl,rfl⟩;have ku:qI Our.cmpL (ZE l)=ZA l:=rfl;rw[ku]at hjj⊢;conv=>whnf
 repeat'(first|refine AU ?_|refine IW ?_ ?_<;>intro h<;>try omega)<;>conv=>whnf
 exact wh.aA h0 [] (.wM [.val (.pointer none), .int .i64 2]) [] (.inr (.inl ⟨‹_›,by omega,rfl,rfl,rfl⟩));have kH:(ZK l).2=0:= ‹_›;have bD:(ZA l).length<=4096:=by omega
 obtain⟨dR,dF⟩:=Uj kH;have QF:l.length<=1048576:=dF;obtain⟨A,hA⟩:∃A,A=ZA l:=⟨_,rfl⟩;rw[<-hA]at hAl hnd hmem hjj bD⊢;refine wj.jD Z0 [0,6,37,38] [] (X:=Nat) (fun i=>i<=A.length) (fun i=>[(39, .int .i64 (i:Int))]) (fun i=>[(1, .rows 1 ((A++List.replicate jj []).map Zh)),(2, .mp (kU (Xt 0 A i))),(3, .box [.sl (.loc 0) 0 16 l.length lim, .sl (.loc 1) 0 1 A.length (some A.length), .mp (.loc 2), .val (.slice none 0 0)])]) 4 (fun i=>A.length-i) 0 (by omega) ?_;conv=>whnf
 refine⟨by exact w5.cA h0,?_⟩;intro i hi;conv=>whnf
 by_cases hlt:i<A.length
 .have hs:=AP (b:=0) hlt;rw[Int.zero_add]at hs;have gA:∀{k:Nat},k=i->((A++List.replicate jj []).map Zh)[k]?=some (Zh A[i]):=fun e=>by subst e;rw[z6,zn hlt,z1 hlt];rfl
  repeat'(first|refine GET.at (gA (by omega)) ?_|refine wm.mk ⟨KT.ok _,VL KT _ _⟩ ?_|refine AU ?_|refine IW ?_ ?_<;>intro h<;>try omega)<;>conv=>whnf
  first|rw[Tk,<-hs]|rw[Tl,<-hs]
  refine⟨i+1,by omega,by omega,?_⟩;conv=>whnf
  exact w5.cA h0
 have hie:i=A.length:=by omega
 subst hie;clear hlt;repeat'(first|refine wm.mk (UN 24 rfl (by omega) (by omega) (by omega) (by omega)) ?_|refine AU ?_|refine IW ?_ ?_<;>intro h<;>try omega)<;>conv=>whnf
 refine qx.loop (qx.bY 4 (kL (List.replicate A.length [])) rfl (by rw[Int.toNat_natCast];exact TH _)) ?_;rw[Int.toNat_natCast];have sF:=Fy (b:=0) hnd;refine wj.jD Z0 [6,60,61] [] (X:=Nat) (fun k=>k<=l.length) (fun k=>[(62, .int .i64 (k:Int))]) (fun k=>[(1, .rows 1 ((A++List.replicate jj []).map Zh)),(2, .mp (kU (Xt 0 A A.length))),(3, .box [.sl (.loc 0) 0 16 l.length lim, .sl (.loc 1) 0 1 A.length (some A.length), .mp (.loc 2), .sl (.loc 4) 0 1 A.length none]),(4, .deep false 1 (kL ((List.range A.length).map (nY A l k))))]) 5 (fun k=>l.length-k) 0 (by omega) ?_;conv=>whnf
 refine⟨by rw[Tz];exact w5.cA h0,?_⟩;intro k hk;conv=>whnf
 by_cases pz:k<l.length
 .have gQ:∀{m:Nat},m=k->((l++z).map Z4)[m]?=some (Z4 l[k]):=fun e=>by subst e;rw[z6,zn pz,z1 pz];rfl
  obtain⟨q,hq⟩:∃q,q=l[k]:=⟨_,rfl⟩;rw[<-hq]at gQ;have hT:=TG q;have bE:∀s∈Zx q,s∈A:=fun s hs=>hmem s (xB.2 ⟨q,by rw[hq];exact zm pz,hs⟩);repeat'(first|refine GET.at (gQ (by omega)) ?_|refine AU ?_|refine IW ?_ ?_<;>intro h<;>try omega)<;>conv=>whnf
  refine CALL.aA [5] (hT) ?_;rintro r O nx ⟨rfl,rfl,rfl⟩;conv=>whnf
  repeat'(first|refine AU ?_|refine IW ?_ ?_<;>intro h<;>try omega)<;>conv=>whnf
  rw[<-Ty];refine wj.jD Z0 [6,9,60,61,62,67] [] (X:=Nat) (fun x=>x<=4) (fun x=>[(68, .int .i64 (x:Int))]) (fun x=>[(1, .rows 1 ((A++List.replicate jj []).map Zh)),(2, .mp (kU (Xt 0 A A.length))),(3, .box [.sl (.loc 0) 0 16 l.length lim, .sl (.loc 1) 0 1 A.length (some A.length), .mp (.loc 2), .sl (.loc 4) 0 1 A.length none]),(4, .deep false 1 (kL (J8 A l k (((XW q).take x).flatMap ZS)))),(5, .box (Z4 q))]) 6 (fun x=>4-x) 0 (by omega) ?_;conv=>whnf
  refine⟨by exact w5.cA h0,?_⟩;intro x TJ;conv=>whnf
  by_cases hx:x<4
  .obtain⟨t,ht⟩:∃t,(XW q)[x]?=some t:=⟨_,z1 (by simpa[XW]using hx)⟩;have hS:((XW q).take (x+1)).flatMap ZS=((XW q).take x).flatMap ZS++ZS t:=by rw[List.take_add_one,ht];simp
   have hsub:∀s∈ZS t,s∈A:=fun s hs=>bE s (by have:=zU ht;simp only[XW,zK,xA,uw]at this;unfold Zx;rcases this with rfl|rfl|rfl|rfl<;>simp[hs]);obtain⟨X,hX⟩:∃X,X=x:=⟨_,rfl⟩;obtain⟨T,sH⟩:∃T,T=((XW q).take x).flatMap ZS:=⟨_,rfl⟩;rw[<-sH,<-hX]at hS;rw[<-sH];clear sH;have hxc:x=0\/x=1\/x=2\/x=3:=by omega
   rcases q with⟨s0,p0,o0,g0⟩
   rcases hxc with rfl|rfl|rfl|rfl
   all_goals
    have ht:=(um ht).symm;subst ht;repeat'(first|refine wm.mk ⟨by omega,by omega,rfl⟩ ?_|refine GET.at (row:=_) rfl ?_|(show wO _ _ _ _ _ _ _;first|refine Z3 20 D3 ?_|refine Z3 21 D4 ?_|refine Z3 22 D5 ?_)|refine qJ.mk (fun _ _=>?_)|refine AD ?_|refine j9.mk ?_ ?_|refine AU ?_|refine IW ?_ ?_<;>intro h<;>try omega)<;>conv=>whnf
    .rw[show ZS t=[]from z7 h,zO]at hS;refine⟨X+1,by omega,by omega,?_⟩;rw[hS];conv=>whnf
     exact w5.cA h0
    have h2:t.k=2:=h;have Sr:ZS t=[t.t]:=zh h2;rw[Sr]at hS hsub;have oQ:t.t∈A:=hsub _ (vm _);have kP:=yA oQ;have nG:A[A.idxOf t.t]=t.t:=x7 kP;have o7:nX 0 A t.t=((A.idxOf t.t:Nat):Int):=by unfold nX;rw[zh oQ];omega
    generalize A.idxOf t.t=n0 at kP nG o7;refine wm.mk ⟨KT.ok _,VL KT dw _⟩ ?_;refine bJ.A KT dw t.t (Xt 0 A A.length) (fun i v hf=>?_) (fun hf=>?_)
    .have hv:=Fw hf;rw[sF,o7]at hv;subst hv;conv=>whnf
     have av:n0< (J8 A l k T).length:=by rw[Vy];exact kP
     have FG:(J8 A l k T)[n0].length<=1048577:=by have:=Tx _ (zm av);omega
     refine qx.drawn (qx.take 4 n0 0 rfl (UW av) rfl) ?_;rw[show(List.map Yf (J8 A l k T)[n0]).length=(J8 A l k T)[n0].length from zA ..];obtain⟨L,hL⟩:∃L,L=(J8 A l k T)[n0]:=⟨_,rfl⟩;have qb:=ZdE (A:=A) (l:=l) (k:=k) (T:=T) kP;rw[<-hL]at qb FG⊢;rcases ZaW L with QG|⟨c,j,QG⟩
     .have nA:A[n0]∉T:=fun hm=>by
       obtain⟨c,hc⟩:=qb.2 hm;rw[QG]at hc;simp at hc
      have gL:∀{m:Nat},m+1=0->(L.map Yf)[m]?=some []:=fun h=>by omega
      have hLz:L.length=0:=by rw[QG];rfl
      clear qb bE hmem gQ hT gD ku;repeat'(first|(show wO _ _ _ _ _ _ _;first|refine Z3 20 D3 ?_|refine Z3 21 D4 ?_|refine Z3 22 D5 ?_)|refine qJ.mk (fun _ _=>?_)|refine AD ?_|refine j9.mk ?_ ?_|refine GET.at (by rw[zy];exact ES (UW av)) ?_|refine kF.at (by rw[zy];exact EU (UW av)) ?_|refine GET.at (gL (by rw[Z5 (by omega) (by omega)];omega)) ?_|refine wm.mk (Zm 8 rfl rfl (by simp) (by simp) (by omega)) ?_|refine AU ?_|refine IW ?_ ?_<;>intro h<;>try omega)<;>conv=>whnf
      all_goals first|(exfalso;omega)|skip
      all_goals
       rw[O5 av (by omega) (s:=k) (by rw[<-hL];rw[zi (by simp),zi (by simp)];simp[Yf]),<-AZ hnd kP nA,nG,<-hS];refine⟨X+1,by omega,by omega,?_⟩;conv=>whnf
       exact w5.cA h0
     .have gL:∀{m:Nat},m+1=L.length->(L.map Yf)[m]?=some (Yf j):=fun{m} h=>by
       rw[QG]at h⊢;have h:m=c.length:=by simp at h;omega
       subst h;rw[z6,zx (zo _)];simp
      have hLz:L.length=c.length+1:=by rw[QG];simp
      by_cases hjk:j=k
      .have nA:A[n0]∈T:=qb.1 ⟨c,by rw[QG,hjk]⟩;clear qb bE hmem gQ hT gD ku;repeat'(first|(show wO _ _ _ _ _ _ _;first|refine Z3 20 D3 ?_|refine Z3 21 D4 ?_|refine Z3 22 D5 ?_)|refine qJ.mk (fun _ _=>?_)|refine AD ?_|refine j9.mk ?_ ?_|refine GET.at (by rw[zy];exact ES (UW av)) ?_|refine kF.at (by rw[zy];exact EU (UW av)) ?_|refine GET.at (gL (by rw[Z5 (by omega) (by omega)];omega)) ?_|refine wm.mk (Zm 8 rfl rfl (by simp) (by simp) (by omega)) ?_|refine AU ?_|refine IW ?_ ?_<;>intro h<;>try omega)<;>conv=>whnf
       all_goals first|(exfalso;omega)|skip
       rw[nG]at nA;refine⟨X+1,by omega,by omega,?_⟩;rw[hS,Zg6 nA];conv=>whnf
       refine w5.trans (qx.goes (qx.dZ 4 n0 0 6 rfl (To av rfl) rfl rfl (by rw[zA];exact zo _) (by decide))) ?_;rw[hL,TI av rfl rfl];exact w5.cA h0
      .have nA:A[n0]∉T:=fun hm=>by
        obtain⟨c',bq⟩:=qb.2 hm;rw[QG]at bq;exact hjk (by simpa using(List.append_inj' bq rfl).2)
       clear qb bE hmem gQ hT gD ku;repeat'(first|(show wO _ _ _ _ _ _ _;first|refine Z3 20 D3 ?_|refine Z3 21 D4 ?_|refine Z3 22 D5 ?_)|refine qJ.mk (fun _ _=>?_)|refine AD ?_|refine j9.mk ?_ ?_|refine GET.at (by rw[zy];exact ES (UW av)) ?_|refine kF.at (by rw[zy];exact EU (UW av)) ?_|refine GET.at (gL (by rw[Z5 (by omega) (by omega)];omega)) ?_|refine wm.mk (Zm 8 rfl rfl (by simp) (by simp) (by omega)) ?_|refine AU ?_|refine IW ?_ ?_<;>intro h<;>try omega)<;>conv=>whnf
       all_goals first|(exfalso;omega)|skip
       all_goals
        rw[O5 av (by omega) (s:=k) (by rw[<-hL];rw[zi (by simp),zi (by simp)];simp[Yf]),<-AZ hnd kP nA,nG,<-hS];refine⟨X+1,by omega,by omega,?_⟩;conv=>whnf
        exact w5.cA h0
    .have hg:=QC (b:=0) hnd A.length t.t (zo _);rw[UH hf,<-nG,hnd.idxOf_getElem n0 kP,yg kP]at hg;cases hg
  .have TJ:x=4:=by omega
   subst TJ;have FH:((XW q).take 4).flatMap ZS=Zx q:=by simp[XW,Zx]
   rw[FH,TA pz (fun s _=>by rw[hq])];repeat'(first|refine AU ?_|refine IW ?_ ?_<;>intro h<;>try omega)<;>conv=>whnf
   refine⟨k+1,by omega,by omega,?_⟩;conv=>whnf
   exact w5.cA h0
 .have hke:k=l.length:=by omega
  subst hke;repeat'(first|refine AU ?_|refine IW ?_ ?_<;>intro h<;>try omega)<;>conv=>whnf
  refine wh.aA h0 [3,1,2,4] (.wM [.ptr (.loc 1) 0 0 0, .int .i64 0]) [(1,O6 l.length lim A.length),(2, .rows 1 ((A++List.replicate jj []).map Zh)),(3, .mp (kU (Xt 0 A A.length))),(4, .deep false 1 (kL (qv A l)))] (.inr (.inr ⟨kH,by rw[<-hA];omega,rfl,rfl,jj,by rw[<-hA];omega,by rw[<-hA]⟩))
