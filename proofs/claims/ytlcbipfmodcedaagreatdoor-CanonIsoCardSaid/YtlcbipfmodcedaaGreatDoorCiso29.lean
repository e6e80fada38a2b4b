/- Part 29: Can1. Conditions: as each part says. -/
import Derived.Test.YtlcbipfmodcedaaGreatDoorCiso18
import Derived.Test.YtlcbipfmodcedaaGreatDoorCiso19
import Derived.Test.YtlcbipfmodcedaaGreatDoorCiso28
set_option linter.unusedVariables false
set_option linter.unusedSimpArgs false
set_option maxRecDepth 20000
set_option maxHeartbeats 8000000
namespace Go.Proofs.YtlcbipfmodcedaaGreatDoor
open Go.Sx Go.Our Go.Lib
open _root_.Go.Proofs.Tryz
def ZiI:uJ:=(ZI [(0,1),(1,1),(2,1),(3,1),(4,1),(5,1),(6,1),(7,1),(8,1),(9,1),(10,1),(11,1),(12,1),(13,0)])
def Ek:uJ:=(ZI [(0,1),(1,1),(2,1),(4,1),(5,1),(6,1),(3,2),(7,2),(8,3),(9,1)])
def El:uJ:=(ZI [(0,1),(1,1),(2,1),(4,1),(3,2),(5,1),(6,2),(7,1),(8,1),(9,1),(10,1),(11,1),(12,1),(14,1),(17,1),(18,1),(19,1),(21,1),(28,1),(13,2),(15,1),(16,2),(20,2),(22,1),(23,2),(24,1),(25,1),(26,1),(27,2),(29,1),(30,1)])
def Em:uJ:=(.take 0 1 (.take 1 1 (.take 2 1 (.take 4 1 (.take 5 1 (.take 6 1 (.take 7 1 (.take 9 1 (.take 12 1 (.take 8 2 (.take 10 1 (.take 11 2 (.fork 3 3 13 3 (ZI [(13,3),(14,0),(15,1),(16,0)]) (.fork 3 3 14 0 (ZI [(14,0),(15,1),(16,0)]) (ZI [(3,2),(15,1),(16,0)])))))))))))))))
theorem Sj(q:Qd):vW prog uv 62 1 [.ptr (.loc 0) 0 0 0] [] [(0, .box (Zd q))]
 (fun r O nx=>r= .arr 1 [[.ptr (.loc 0) 0 0 0],[.ptr (.loc 0) 0 0 4],[.ptr (.loc 0) 0 0 8],[.ptr (.loc 0) 0 0 12]]/\O=[]/\nx=1):=by
 refine vW.enter Z3 call62 func62 rfl 16 rfl rfl [.cell 2 100] rfl ?_;intro w0 F η0 h0;conv=>whnf
 repeat'(first|(show uK _ _ _ _ _ _ _;first|refine Zs 1 ZiI ?_)|refine qW.mk (fun _ _=>?_)|refine AD ?_|refine w6.mk ?_ ?_|refine AU ?_|refine IW ?_ ?_<;>intro h<;>try omega)<;>conv=>whnf
 exact u9.aA h0 [] (.arr 1 [[.ptr (.loc 0) 0 0 0],[.ptr (.loc 0) 0 0 4],[.ptr (.loc 0) 0 0 8],[.ptr (.loc 0) 0 0 12]]) [] ⟨rfl,rfl,rfl⟩
theorem Ql:∀(k n:Nat),n<10^ (k+1)->(decDigits n).length<=k+1
 |0,n,h=>by rw[decDigits,yx (by simpa using h)];simp
 |k+1,n,h=>by
  rw[decDigits];split
  simp
  .have:=Ql k (n/10) (by rw[Nat.pow_succ]at h;omega);rw[ze,List.length_singleton];omega
theorem Z99(n:Nat)(hn:n<10000):vW prog uv 135 0 [.int .i64 (n:Int)] [] [] (wF (.str (iJ n))):=by
 have hi:itoa (n:Int)=decDigits n:=by unfold itoa;rw[z6 (by omega)];simp
 have hl:=Ql 3 n (by simpa using hn)
 have hd:List.drop (decDigits n).length ([48,48,48,48]:List UInt8)=List.replicate (4-(decDigits n).length) 48:=by
  rw[show([48,48,48,48]:List UInt8)=List.replicate 4 48 from rfl,List.drop_replicate]
 refine vW.enter Z3 call135 func135 rfl 11 rfl rfl [.tmp 2] rfl ?_;intro w0 F η0 h0;conv=>whnf
 repeat'(first|refine CALL.value (Zz (n:Int) ⟨by omega,by omega⟩) rfl rfl ?_|rw[hi];refine ud.mk ⟨by omega,by show((decDigits n).length:Int)<=(4:Int);omega⟩ ?_;rw[Int.toNat_natCast,show(ByteArray.mk #[48,48,48,48]).data.toList=[48,48,48,48]from rfl,hd]|refine ud.mk (by rw[zT,hi];omega) ?_|refine AU ?_|refine IW ?_ ?_<;>intro h<;>try omega)<;>conv=>whnf
 exact u9.value h0 rfl rfl
def lP(l:List Nat):List DC:=[.uC 1 (l.map Yx)]
def j6(I:List (List Nat)):List (List DC):=I.map lP
theorem Sk(l:List Nat):Zj (l.map Yx)=true:=ZN _ (fun _=>rfl) l
theorem Sl:∀I:List (List Nat),ZD (j6 I)=true
 | []=>rfl
 |l::I=>by simp only[j6,zL,lP,ZD,Yi,Jl,Sk,zS,xF];exact Sl I
instance {I:List (List Nat)}:bQ (j6 I):=⟨Sl I⟩
theorem rZ{I:List (List Nat)}{i:Nat}(h:i<I.length):(j6 I)[i]?=some (lP I[i]):=by unfold j6;rw[z7,z1 h];rfl
theorem ZiJ{I:List (List Nat)}{i k:Nat}(h:i<I.length)(hk:k=i):WT (j6 I) k 0=some (k, .uC 1 (I[i].map Yx)):=by
 subst hk;unfold WT;rw[rZ h];rfl
theorem ZbI(n:Nat):Be (List.replicate n [SV.val (.slice none 0 0)]) (j6 (List.replicate n [])):=by
 refine⟨by simp[j6],fun a row' h=>?_⟩;unfold j6 at h;rw[x7]at h;obtain⟨ha,hr⟩:=zg.1 h;rw[zT]at ha;rw[xw]at hr;subst hr;refine⟨_,by rw[xk,z8 ha],?_⟩;exact And.intro (.inr ⟨rfl,1,rfl⟩) trivial
theorem Sn{I:List (List Nat)}{i k n:Nat}{sv:SV}(h:i<I.length)(hk:k=i)(hn:n=I[i].length):uw (uw (j6 I) k 0 (.v sv)) i 0 (.uC 1 ((I[i].map Yx).take n))=j6 I:=Rk (es:=1) (f:=Yx) h hk hn
theorem Sq{I:List (List Nat)}{j:Nat}{s:Nat}{sv:SV}{rows:List (List SV)}{k i:Nat}(hn:j<I.length)(hi:i=j)(hr:rows.take k=(I[j]++ [s]).map Yx):
 ((uw (j6 I) j 0 (.v sv)).modify i fun row=>row.set 0 (.uC 1 (rows.take k)))=j6 (I.modify j (· ++ [s])):=by
 subst hi;show uw _ _ _ _=_
 rw[qy,hr];apply yj;intro a;rw[Y1];unfold j6;simp only[z7,ym];by_cases ha:a=i
 .subst ha;rw[z8 rfl,z1 hn];simp[lP]
 .rw[z6 ha];cases I[a]?<;>simp[yO ha]
def A7(n:Nat)(lim:Option Nat)(nl:Nat):Hp:= .box [.sl (.loc 0) 0 16 n lim, .sl (.loc 2) 0 1 nl (some nl), .mp (.loc 3), .sl (.loc 4) 0 1 nl none]
def qx(A:List LB)(l:List Qd):List (List Nat):=(List.range A.length).map (nQ A l)
def Zku(l:List Qd)(lim:Option Nat):SV->u0->Nat->Prop:=fun r O nx=>
 ((Yr l).2≠0/\r= .uI [.val (.pointer none), .int .i64 (Yr l).2]/\O=[]/\nx=1)\/
 ((Yr l).2=0/\4096< (Z0 l).length/\r= .uI [.val (.pointer none), .int .i64 2]/\O=[]/\nx=1)\/
 ((Yr l).2=0/\(Z0 l).length<=4096/\r= .uI [.ptr (.loc 1) 0 0 0, .int .i64 0]/\nx=5/\∃j,j+(Z0 l).length<=(ZR l).length/\
   O=[(1,A7 l.length lim (Z0 l).length),(2, .rows 1 ((Z0 l++List.replicate j []).map Z9)),(3, .mp (kz (X0 0 (Z0 l) (Z0 l).length))),(4, .deep false 1 (j6 (qx (Z0 l) l)))])
theorem Z9a{J:Type}(L:List J):L=[]\/∃c j,L=c++ [j]:=by
 by_cases h:L=[]
 exact .inl h;exact .inr ⟨L.dropLast,L.getLast h,(List.dropLast_concat_getLast h).symm⟩
theorem ZbJ(l z:List Qd)(lim:Option Nat)(hl:VU l)(ql:nH l)(hz:(l++z).length<=1152921504606846976):
 vW prog uv 30 1 [.sl (.loc 0) 0 16 l.length lim] [] [(0, .rows 16 ((l++z).map Zd))] (Zku l lim):=by
 have hv:=WM l z lim (by unfold VU at hl;omega) ql;have jR:=VW l z lim hl hz;have Qr:(Z0 l).length<=l.length*4:=zK (Cq _) (Hj _ WI _);have hnd:(Z0 l).Nodup:=Yb kr (J7 kr _);have hmem:∀x∈ZR l,x∈Z0 l:=fun x hx=>(Vc _ _).2 hx;refine vW.enter Z3 call30 func30 rfl 135 rfl rfl [.tmp 2, .tmp 3] rfl ?_;intro w0 F η0 h0;conv=>whnf
 repeat'(first|refine AU ?_|refine IW ?_ ?_<;>intro h<;>try omega)<;>conv=>whnf
 refine CALL.aA [0] (hv) ?_;rintro r O nx ⟨rfl,rfl,rfl⟩;conv=>whnf
 repeat'(first|refine AU ?_|refine IW ?_ ?_<;>intro h<;>try omega)<;>conv=>whnf
 exact u9.aA h0 [] (.uI [.val (.pointer none), .int .i64 (Yr l).2]) [] (.inl ⟨by omega,rfl,rfl,rfl⟩);refine CALL.aA [0] (jR) ?_;rintro r O nx ⟨jj,hjj,rfl,rfl,rfl⟩;have qo:wQ Our.cmpL (ZR l)=Z0 l:=rfl;rw[qo]at hjj⊢;conv=>whnf
 repeat'(first|refine AU ?_|refine IW ?_ ?_<;>intro h<;>try omega)<;>conv=>whnf
 exact u9.aA h0 [] (.uI [.val (.pointer none), .int .i64 2]) [] (.inr (.inl ⟨‹_›,by omega,rfl,rfl,rfl⟩));have kY:(Yr l).2=0:= ‹_›;have s4:(Z0 l).length<=4096:=by omega
 obtain⟨dR,dF⟩:=W0 kY;have nN:l.length<=1048576:=dF;obtain⟨A,hA⟩:∃A,A=Z0 l:=⟨_,rfl⟩;rw[<-hA]at Qr hnd hmem hjj s4⊢;refine ua.j5 Z3 [0,6,37,38] [] (X:=Nat) (fun i=>i<=A.length) (fun i=>[(39, .int .i64 (i:Int))]) (fun i=>[(1, .rows 1 ((A++List.replicate jj []).map Z9)),(2, .mp (kz (X0 0 A i))),(3, .box [.sl (.loc 0) 0 16 l.length lim, .sl (.loc 1) 0 1 A.length (some A.length), .mp (.loc 2), .val (.slice none 0 0)])]) 4 (fun i=>A.length-i) 0 (by omega) ?_;conv=>whnf
 refine⟨by exact vY.cA h0,?_⟩;intro i hi;conv=>whnf
 by_cases hlt:i<A.length
 .have hs:=V7 (b:=0) hlt;rw[Int.zero_add]at hs;have gA:∀{k:Nat},k=i->((A++List.replicate jj []).map Z9)[k]?=some (Z9 A[i]):=fun e=>by subst e;rw[z7,zu hlt,z1 hlt];rfl
  repeat'(first|refine GET.at (gA (by omega)) ?_|refine ud.mk ⟨KT.ok _,YW KT _ _⟩ ?_|refine AU ?_|refine IW ?_ ?_<;>intro h<;>try omega)<;>conv=>whnf
  first|rw[Hz,<-hs]|rw[HA,<-hs]
  refine⟨i+1,by omega,by omega,?_⟩;conv=>whnf
  exact vY.cA h0
 have hie:i=A.length:=by omega
 subst hie;clear hlt;repeat'(first|refine ud.mk (Ux 24 rfl (by omega) (by omega) (by omega) (by omega)) ?_|refine AU ?_|refine IW ?_ ?_<;>intro h<;>try omega)<;>conv=>whnf
 refine uZ.loop (uZ.cg 4 (j6 (List.replicate A.length [])) rfl (by rw[Int.toNat_natCast];exact ZbI _)) ?_;rw[Int.toNat_natCast];have nT:=Gp (b:=0) hnd;refine ua.j5 Z3 [6,60,61] [] (X:=Nat) (fun k=>k<=l.length) (fun k=>[(62, .int .i64 (k:Int))]) (fun k=>[(1, .rows 1 ((A++List.replicate jj []).map Z9)),(2, .mp (kz (X0 0 A A.length))),(3, .box [.sl (.loc 0) 0 16 l.length lim, .sl (.loc 1) 0 1 A.length (some A.length), .mp (.loc 2), .sl (.loc 4) 0 1 A.length none]),(4, .deep false 1 (j6 ((List.range A.length).map (nR A l k))))]) 5 (fun k=>l.length-k) 0 (by omega) ?_;conv=>whnf
 refine⟨by rw[ZbG];exact vY.cA h0,?_⟩;intro k hk;conv=>whnf
 by_cases cL:k<l.length
 .have gQ:∀{m:Nat},m=k->((l++z).map Zd)[m]?=some (Zd l[k]):=fun e=>by subst e;rw[z7,zu cL,z1 cL];rfl
  obtain⟨q,hq⟩:∃q,q=l[k]:=⟨_,rfl⟩;rw[<-hq]at gQ;have hT:=Sj q;have oG:∀s∈ZB q,s∈A:=fun s hs=>hmem s (xy.2 ⟨q,by rw[hq];exact zq cL,hs⟩);repeat'(first|refine GET.at (gQ (by omega)) ?_|refine AU ?_|refine IW ?_ ?_<;>intro h<;>try omega)<;>conv=>whnf
  refine CALL.aA [5] (hT) ?_;rintro r O nx ⟨rfl,rfl,rfl⟩;conv=>whnf
  repeat'(first|refine AU ?_|refine IW ?_ ?_<;>intro h<;>try omega)<;>conv=>whnf
  rw[<-Zes];refine ua.j5 Z3 [6,9,60,61,62,67] [] (X:=Nat) (fun x=>x<=4) (fun x=>[(68, .int .i64 (x:Int))]) (fun x=>[(1, .rows 1 ((A++List.replicate jj []).map Z9)),(2, .mp (kz (X0 0 A A.length))),(3, .box [.sl (.loc 0) 0 16 l.length lim, .sl (.loc 1) 0 1 A.length (some A.length), .mp (.loc 2), .sl (.loc 4) 0 1 A.length none]),(4, .deep false 1 (j6 (JR A l k (((Zv q).take x).flatMap ZV)))),(5, .box (Zd q))]) 6 (fun x=>4-x) 0 (by omega) ?_;conv=>whnf
  refine⟨by exact vY.cA h0,?_⟩;intro x Sr;conv=>whnf
  by_cases hx:x<4
  .obtain⟨t,ht⟩:∃t,(Zv q)[x]?=some t:=⟨_,z1 (by simpa[Zv]using hx)⟩;have hS:((Zv q).take (x+1)).flatMap ZV=((Zv q).take x).flatMap ZV++ZV t:=by rw[List.take_add_one,ht];simp
   have hsub:∀s∈ZV t,s∈A:=fun s hs=>oG s (by have:=y8 ht;simp only[Zv,zI,xh,or_false]at this;unfold ZB;rcases this with rfl|rfl|rfl|rfl<;>simp[hs]);obtain⟨X,hX⟩:∃X,X=x:=⟨_,rfl⟩;obtain⟨T,A8⟩:∃T,T=((Zv q).take x).flatMap ZV:=⟨_,rfl⟩;rw[<-A8,<-hX]at hS;rw[<-A8];clear A8;have hxc:x=0\/x=1\/x=2\/x=3:=by omega
   rcases q with⟨s0,p0,o0,g0⟩
   rcases hxc with rfl|rfl|rfl|rfl
   all_goals
    have ht:=(Option.some.inj ht).symm;subst ht;repeat'(first|refine ud.mk ⟨by omega,by omega,rfl⟩ ?_|refine GET.at (row:=_) rfl ?_|(show uK _ _ _ _ _ _ _;first|refine Zs 20 Ek ?_|refine Zs 21 El ?_|refine Zs 22 Em ?_)|refine qW.mk (fun _ _=>?_)|refine AD ?_|refine w6.mk ?_ ?_|refine AU ?_|refine IW ?_ ?_<;>intro h<;>try omega)<;>conv=>whnf
    .rw[show ZV t=[]from z6 h,zU]at hS;refine⟨X+1,by omega,by omega,?_⟩;rw[hS];conv=>whnf
     exact vY.cA h0
    have h2:t.k=2:=h;have hbt:ZV t=[t.t]:=z8 h2;rw[hbt]at hS hsub;have s5:t.t∈A:=hsub _ (vk _);have jO:=zy s5;have iK:A[A.idxOf t.t]=t.t:=zV jO;have bU:wq 0 A t.t=((A.idxOf t.t:Nat):Int):=by unfold wq;rw[z8 s5];omega
    generalize A.idxOf t.t=n0 at jO iK bU;refine ud.mk ⟨KT.ok _,YW KT qj _⟩ ?_;refine jx.A KT qj t.t (X0 0 A A.length) (fun i v hf=>?_) (fun hf=>?_)
    .have hv:=WN hf;rw[nT,bU]at hv;subst hv;conv=>whnf
     have oQ:n0< (JR A l k T).length:=by rw[Vx];exact jO
     have hPl:(JR A l k T)[n0].length<=1048577:=by have:=Zgv _ (zq oQ);omega
     refine uZ.drawn (uZ.take 4 n0 0 rfl (rZ oQ) rfl) ?_;rw[show(List.map Yx (JR A l k T)[n0]).length=(JR A l k T)[n0].length from zj ..];obtain⟨L,hL⟩:∃L,L=(JR A l k T)[n0]:=⟨_,rfl⟩;have qq:=ZbH (A:=A) (l:=l) (k:=k) (T:=T) jO;rw[<-hL]at qq hPl⊢;rcases Z9a L with dn|⟨c,j,dn⟩
     .have Qv:A[n0]∉T:=fun hm=>by
       obtain⟨c,hc⟩:=qq.2 hm;rw[dn]at hc;simp at hc
      have gL:∀{m:Nat},m+1=0->(L.map Yx)[m]?=some []:=fun h=>by omega
      have hLz:L.length=0:=by rw[dn];rfl
      clear qq oG hmem gQ hT jR qo;repeat'(first|(show uK _ _ _ _ _ _ _;first|refine Zs 20 Ek ?_|refine Zs 21 El ?_|refine Zs 22 Em ?_)|refine qW.mk (fun _ _=>?_)|refine AD ?_|refine w6.mk ?_ ?_|refine GET.at (by rw[zw];exact Hy (rZ oQ)) ?_|refine wZ.at (by rw[zw];exact HF (rZ oQ)) ?_|refine GET.at (gL (by rw[Z4 (by omega) (by omega)];omega)) ?_|refine ud.mk (Ye 8 rfl rfl (by simp) (by simp) (by omega)) ?_|refine AU ?_|refine IW ?_ ?_<;>intro h<;>try omega)<;>conv=>whnf
      all_goals first|(exfalso;omega)|skip
      all_goals
       rw[Sq oQ (by omega) (s:=k) (by rw[<-hL];rw[zo (by simp),zo (by simp)];simp[Yx]),<-Sb hnd jO Qv,iK,<-hS];refine⟨X+1,by omega,by omega,?_⟩;conv=>whnf
       exact vY.cA h0
     .have gL:∀{m:Nat},m+1=L.length->(L.map Yx)[m]?=some (Yx j):=fun{m} h=>by
       rw[dn]at h⊢;have h:m=c.length:=by simp at h;omega
       subst h;rw[z7,zz (zn _)];simp
      have hLz:L.length=c.length+1:=by rw[dn];simp
      by_cases hjk:j=k
      .have Qv:A[n0]∈T:=qq.1 ⟨c,by rw[dn,hjk]⟩;clear qq oG hmem gQ hT jR qo;repeat'(first|(show uK _ _ _ _ _ _ _;first|refine Zs 20 Ek ?_|refine Zs 21 El ?_|refine Zs 22 Em ?_)|refine qW.mk (fun _ _=>?_)|refine AD ?_|refine w6.mk ?_ ?_|refine GET.at (by rw[zw];exact Hy (rZ oQ)) ?_|refine wZ.at (by rw[zw];exact HF (rZ oQ)) ?_|refine GET.at (gL (by rw[Z4 (by omega) (by omega)];omega)) ?_|refine ud.mk (Ye 8 rfl rfl (by simp) (by simp) (by omega)) ?_|refine AU ?_|refine IW ?_ ?_<;>intro h<;>try omega)<;>conv=>whnf
       all_goals first|(exfalso;omega)|skip
       rw[iK]at Qv;refine⟨X+1,by omega,by omega,?_⟩;rw[hS,Zet Qv];conv=>whnf
       refine vY.trans (uZ.goes (uZ.jL 4 n0 0 6 rfl (HV oQ rfl) rfl rfl (by rw[zj];exact zn _) (by decide))) ?_;rw[hL,Sn oQ rfl rfl];exact vY.cA h0
      .have Qv:A[n0]∉T:=fun hm=>by
        obtain⟨c',dU⟩:=qq.2 hm;rw[dn]at dU;exact hjk (by simpa using(List.append_inj' dU rfl).2)
       clear qq oG hmem gQ hT jR qo;repeat'(first|(show uK _ _ _ _ _ _ _;first|refine Zs 20 Ek ?_|refine Zs 21 El ?_|refine Zs 22 Em ?_)|refine qW.mk (fun _ _=>?_)|refine AD ?_|refine w6.mk ?_ ?_|refine GET.at (by rw[zw];exact Hy (rZ oQ)) ?_|refine wZ.at (by rw[zw];exact HF (rZ oQ)) ?_|refine GET.at (gL (by rw[Z4 (by omega) (by omega)];omega)) ?_|refine ud.mk (Ye 8 rfl rfl (by simp) (by simp) (by omega)) ?_|refine AU ?_|refine IW ?_ ?_<;>intro h<;>try omega)<;>conv=>whnf
       all_goals first|(exfalso;omega)|skip
       all_goals
        rw[Sq oQ (by omega) (s:=k) (by rw[<-hL];rw[zo (by simp),zo (by simp)];simp[Yx]),<-Sb hnd jO Qv,iK,<-hS];refine⟨X+1,by omega,by omega,?_⟩;conv=>whnf
        exact vY.cA h0
    .have hg:=WO (b:=0) hnd A.length t.t (zn _);rw[VS hf,<-iK,hnd.idxOf_getElem n0 jO,yx jO]at hg;cases hg
  .have Sr:x=4:=by omega
   subst Sr;have hbq:((Zv q).take 4).flatMap ZV=ZB q:=by simp[Zv,ZB]
   rw[hbq,Zeu cL (fun s _=>by rw[hq])];repeat'(first|refine AU ?_|refine IW ?_ ?_<;>intro h<;>try omega)<;>conv=>whnf
   refine⟨k+1,by omega,by omega,?_⟩;conv=>whnf
   exact vY.cA h0
 .have hke:k=l.length:=by omega
  subst hke;repeat'(first|refine AU ?_|refine IW ?_ ?_<;>intro h<;>try omega)<;>conv=>whnf
  refine u9.aA h0 [3,1,2,4] (.uI [.ptr (.loc 1) 0 0 0, .int .i64 0]) [(1,A7 l.length lim A.length),(2, .rows 1 ((A++List.replicate jj []).map Z9)),(3, .mp (kz (X0 0 A A.length))),(4, .deep false 1 (j6 (qx A l)))] (.inr (.inr ⟨kY,by rw[<-hA];omega,rfl,rfl,jj,by rw[<-hA];omega,by rw[<-hA]⟩))
end Go.Proofs.YtlcbipfmodcedaaGreatDoor
