import Derived.Test.YtlcbipfmodcedaaGreatDoorTxt16
set_option linter.unusedVariables false
set_option linter.unusedSimpArgs false
set_option maxRecDepth 20000
set_option maxHeartbeats 8000000
namespace Go.Proofs.YtlcbipfmodcedaaGreatDoor
open Go.Sx Go.Our
open _root_.Go.Proofs.Tryz
def Zk6:wP:=(Zr [(1,1),(5,1),(10,1),(14,1),(0,2),(2,1),(3,2),(4,2),(6,1),(7,2),(9,2),(11,1),(12,2),(13,2),(15,1),(16,2),(8,3),(17,3),(18,3),(19,3),(20,1)])
theorem ZdG{a b:List Qd}{i:Nat}(ha:i<a.length)(hb:i<b.length):Y5 (a.drop i) (b.drop i)=if ZM a[i] b[i]=0 then Y5 (a.drop (i+1)) (b.drop (i+1))else ZM a[i] b[i]:=by
 rw[zq ha,zq hb];rfl
theorem TK(a b:List Qd)(la lb:Option Nat)(ha:a.length<=1152921504606846976)(hb:b.length<=1152921504606846976):uX prog wD 37 2 [.sl (.loc 0) 0 16 a.length la, .sl (.loc 1) 0 16 b.length lb] [] [(0, .rows 16 (a.map Z4)),(1, .rows 16 (b.map Z4))] (qE 2 (.int .i64 (Y5 a b))):=by
 have hC:uX prog wD 76 2 [.sl (.loc 0) 0 16 a.length la, .sl (.loc 1) 0 16 b.length lb, .fn (.func 47) [] []] [] [(0, .rows 16 (a.map Z4)),(1, .rows 16 (b.map Z4))] (qE 2 (.int .i64 (Y5 a b))):=by
  have gA:∀{i k:Nat} (h:i<a.length),k=i->(a.map Z4)[k]?=some (Z4 a[i]):=fun h e=>by subst e;rw[z6,z1 h];rfl
  have gB:∀{i k:Nat} (h:i<b.length),k=i->(b.map Z4)[k]?=some (Z4 b[i]):=fun h e=>by subst e;rw[z6,z1 h];rfl
  refine uX.enter Z0 call76 func76 rfl 39 rfl rfl [.tmp 6] rfl ?_;intro w0 F η0 h0;conv=>whnf
  skip
  refine wj.jD Z0 [0,1,2,11,12] [] (X:=Nat) (fun i=>i<=a.length/\i<=b.length/\Y5 a b=Y5 (a.drop i) (b.drop i)) (fun i=>[(13, .int .i64 (i:Int))]) (fun i=>[]) 2 (fun i=>a.length-i) 0 ⟨by omega,by omega,rfl⟩ ?_;conv=>whnf
  refine⟨by exact w5.cA h0,?_⟩;rintro i ⟨hi,hib,he⟩;conv=>whnf
  by_cases sI:i<a.length
  .repeat'(first|refine GET.at (gA sI (by omega)) ?_|refine AU ?_|refine IW ?_ ?_<;>intro h<;>try omega)<;>conv=>whnf
   .refine wh.wC h0 rfl (ze (SV.int _) ?_);have:i=b.length:=by omega
    subst this;rw[he,zN (zo _),zq sI];rfl
   have lH:i<b.length:=by omega
   have hd:=ZdG sI lH;repeat'(first|refine GET.at (gB lH (by omega)) ?_|refine CALL.value (A0 a[i] b[i]) rfl rfl ?_|refine IW ?_ ?_<;>intro h<;>try omega)<;>conv=>whnf
   exact wh.wC h0 rfl (ze (SV.int _) (by rw[he,hd,z7 ‹_›]))
   .refine⟨i+1,⟨by omega,by omega,by rw[he,hd,zh ‹_›]⟩,by omega,?_⟩;conv=>whnf
    exact w5.cA h0
  .have hie:i=a.length:=by omega
   subst hie;repeat'(first|refine IW ?_ ?_<;>intro h<;>try omega)<;>conv=>whnf
   .refine wh.wC h0 rfl (ze (SV.int _) ?_);have h2:a.length<b.length:=by omega
    rw[he,zN (zo _),zq h2];rfl
   .refine wh.wC h0 rfl (ze (SV.int _) ?_);rw[he,zN (zo _),zN (by omega)];rfl
 refine uX.enter Z0 call37 func37 rfl 8 rfl rfl [.tmp 4] rfl ?_;intro w0 F η0 h0;conv=>whnf
 skip
 refine CALL.aA [0,1] (hC) ?_;rintro r O nx ⟨rfl,rfl,rfl⟩;conv=>whnf
 skip
 exact wh.wC h0 rfl rfl
theorem ZhO{C:Cx}{O:w9}{nx y:Nat}{h g:Hp}(hy:y≠nx)(h1:Yk C O (.loc y)=some g):Yk {C with S:=(.loc nx,h)::C.S} O (.loc y)=some g:=by
 simp only[Yk]at h1⊢;split
 rename_i h2;rw[h2]at h1;exact h1
 .rename_i h2;rw[h2]at h1;have:Nat.beq y nx=false:=by rw[<-uK];intro h3;exact hy (uc h3)
  simp only[jd,ow,this];exact h1
theorem TL{C:Cx}{O:w9}{nx:Nat}{h:Hp}(hO:wu nx O=none):Yk {C with S:=(.loc nx,h)::C.S} O (.loc nx)=some h:=by
 simp only[Yk,hO,jd,ow,uF]
theorem CALL.tS{M:Mx}{f:FuncId}{O:w9}{nx es:Nat}{K:SV->w9->Nat->Prop}{u v:Value}{rs qs:List (List SV)}{en aB:Option kM}{r:SV}(hu:qj M.w0 u es rs en)(hv:qj M.w0 v es qs aB)(hF:∀k, ¬M.F k)(hO:wu nx O=none)(hO1:wu (nx+1) O=none)
 (sp:uX M.P M.C.T f 2 [.sl (.loc 0) 0 es rs.length none, .sl (.loc 1) 0 es qs.length none] [] [(0, .rows es rs),(1, .rows es qs)] (qE 2 r)) (eV:Zp rs=true) (HD:Zp qs=true) (hr:plain r=true) (hK:K r O (nx+1+1)):CALL M f [.val u, .val v] O nx K:=by
 refine CALL.Fz [] [.val v] hu hF rfl (fun η1=>?_);refine CALL.Fz (M:=⟨M.P,{M.C with S:=(.loc nx, .rows es rs)::M.C.S},M.w0,M.F,η1,none⟩) [.sl (.loc nx) 0 es rs.length none] [] hv hF rfl (fun η2=>?_);refine CALL.looks [nx,nx+1] sp rfl (by simp[yS];omega) rfl rfl ⟨⟨rfl,?_,Yr eV⟩,⟨rfl,?_,Yr HD⟩,trivial⟩ (by rw[X9 _ hr];exact hK)
 .rw[Zu _ (h:= .rows es rs) eV];exact ZhO (Nat.ne_of_lt (ua _)) (TL hO)
 .rw[Zu _ (h:= .rows es qs) HD];exact TL hO1
def Kz(v:Value):List SV:=[.val v]
instance :PlF Kz:=⟨fun _=>rfl⟩
theorem or2(a b:Int):pL [a,b]=if a=0 then b else a:=by
 simp only[pL];by_cases h:a=0
 subst h;by_cases h2:b=0<;>simp[h2];simp[h]
theorem Z9A(A:List LB)(l:List Qd)(cl:List Int)(vs:List Value)(a b:Nat)(ha:a<cl.length)(hb:b<cl.length)(hvl:vs.length=cl.length)(hl:∀x,(Yu A l cl x).length<=1152921504606846976):
 cz (fun w=> ∀x (h:x<vs.length),∃en,qj w vs[x] 16 ((Yu A l cl x).map Z4) en) prog wD 103 4 [.int .i64 (a:Int), .int .i64 (b:Int), .ptr (.loc 0) 0 0 0, .ptr (.loc 1) 0 0 0] [] [(0, .box [.sl (.loc 2) 0 1 cl.length none]),(1, .box [.sl (.loc 3) 0 1 cl.length none]),(2, .rows 1 (cl.map Zg)),(3, .rows 1 (vs.map Kz))] (qE 4 (.int .i64 (UZ A l cl a b))):=by
 have gC:∀{i k:Nat} (h:i<cl.length),k=i->(cl.map Zg)[k]?=some (Zg cl[i]):=fun h e=>by subst e;rw[z6,z1 h];rfl
 have gV:∀{i k:Nat} (h:i<vs.length),k=i->(vs.map Kz)[k]?=some (Kz vs[i]):=fun h e=>by subst e;rw[z6,z1 h];rfl
 refine uX.eX Z0 call103 func103 rfl 27 rfl rfl [.tmp 6] rfl ?_;intro w0 F η0 h0 hG hF;conv=>whnf
 have hno:∀k, ¬F k:=fun k h=>by rw[hF]at h;simp[Yt,wu]at h
 obtain⟨ea,hU⟩:=hG a (by omega);obtain⟨eb,hV⟩:=hG b (by omega);repeat'(first|refine GET.at (gC ha (by omega)) ?_|refine GET.at (gC hb (by omega)) ?_|refine GET.at (gV (i:=a) (by omega) (by omega)) ?_|refine GET.at (gV (i:=b) (by omega) (by omega)) ?_|(refine qJ.tw (fun η1 w1 H1=>?_);(have hu1:=hU.now H1.fr hno);(have hv1:=hV.now H1.fr hno))|refine CALL.value (RQ cl[a] cl[b]) rfl rfl ?_|(show wO _ _ _ _ _ _ _;first|refine Z3 1 Zk6 ?_)|refine AD ?_|refine AU ?_)<;>conv=>whnf
 have hls:=TK (Yu A l cl a) (Yu A l cl b) none none (hl a) (hl b);rw[show(Yu A l cl a).length=((Yu A l cl a).map Z4).length from(zA ..).symm,show(Yu A l cl b).length=((Yu A l cl b).map Z4).length from(zA ..).symm]at hls;refine CALL.tS hu1 hv1 (fun k h=>h) rfl rfl hls (Zy _) (Zy _) rfl ?_;conv=>whnf
 repeat'(first|refine CALL.looks [6] (BZ [qF cl[a] cl[b],Y5 (Yu A l cl a) (Yu A l cl b)] (by simp)) rfl rfl rfl rfl ⟨⟨rfl,rfl,rfl⟩,trivial⟩ ?_|refine qJ.mk (fun _ _=>?_))<;>conv=>whnf
 refine wh.wC h0 rfl (ze (SV.int _) ?_);unfold UZ;rw[or2,zl,zl,z1 ha,z1 hb];rfl
end Go.Proofs.YtlcbipfmodcedaaGreatDoor
namespace Go.Proofs.YtlcbipfmodcedaaGreatDoor
open Go.Sx Go.Our
open _root_.Go.Proofs.Tryz
def Zk7:wP:=(Zr [(0,1),(1,1),(2,1),(4,1),(5,1),(6,1),(3,2),(7,2),(8,3),(9,1)])
def oR(A:List LB)(cl:List Int)(x:Nat)(q:Qd)(j:Nat):Qd:=⟨if 0<j then Xr A cl x q.s else q.s,if 1<j then Xr A cl x q.p else q.p,if 2<j then Xr A cl x q.o else q.o,if 3<j then Xr A cl x q.g else q.g⟩
theorem Zk8(A:List LB)(cl:List Int)(x:Nat)(q:Qd):oR A cl x q 0=q:=rfl
theorem Zk9(A:List LB)(cl:List Int)(x:Nat)(q:Qd):oR A cl x q 4=s8 A cl x q:=rfl
def FI(n:Nat)(lim:Option Nat)(nl:Nat):Hp:= .box [.sl (.loc 1) 0 16 n lim, .sl (.loc 5) 0 1 nl (some nl), .mp (.loc 2), .sl (.loc 3) 0 1 nl none]
theorem D6{A:List LB}{l:List Qd}{x k:Nat}(h:k∈au A l x):k<l.length:=yh.1 (uo.1 h).1
theorem O7{A:List LB}{cl:List Int}{x:Nat}{t:Tm}(h:¬t.k=2):Xr A cl x t=t:=z7 h
theorem TM{A:List LB}{cl:List Int}{x:Nat}{t:Tm}(h:t.k=2)(hx:A.idxOf t.t=x):Xr A cl x t=⟨t.k,[120],t.y,t.l⟩:=by unfold Xr;rw[zh h,zh hx]
theorem TN{A:List LB}{cl:List Int}{x:Nat}{t:Tm}(h:t.k=2)(hx:¬A.idxOf t.t=x):Xr A cl x t=⟨t.k,ny (cl.getD (A.idxOf t.t) 0).toNat,t.y,t.l⟩:=by unfold Xr;rw[zh h,z7 hx]
theorem Zga{I:List (List Nat)}{i k n:Nat}{sv:SV}(h:i<I.length)(hk:k=i)(hn:n=I[i].length):q9 ((kL I).modify k fun row=>row.set 0 (DC.v sv)) i 0 (.wZ 1 ((I[i].map Yf).take n))=kL I:=by
 subst hk;exact TI h rfl hn
theorem Zgb(A:List LB)(l z:List Qd)(lim:Option Nat)(cl:List Int)(x:Nat)(hx:x<A.length)(gm:cl.length=A.length)(bD:A.length<=4096)(hl:l.length<=1048576)(hnd:A.Nodup)(hmem:∀s∈ZE l,s∈A)(jm:∀c∈cl,0<=c/\c<10000)(hz:(l++z).length<=1152921504606846976):
 uX prog wD 102 6 [.ptr (.loc 0) 0 0 0, .int .i64 (x:Int), .sl (.loc 4) 0 1 A.length none] [(3, .deep false 1 (kL (qv A l)))] [(0,FI l.length lim A.length),(1, .rows 16 ((l++z).map Z4)),(2, .mp (kU (Xt 0 A A.length))),(4, .rows 1 (cl.map Zg))]
 (fun r O nx=>r= .sl (.loc 6) 0 16 (Yu A l cl x).length none/\O=[(3, .deep false 1 (kL (qv A l))),(6, .rows 16 ((Yu A l cl x).map Z4))]/\nx=7):=by
 have TP:(qv A l).length=A.length:=by simp[qv]
 have FJ:x< (qv A l).length:=by omega
 have hIx:(qv A l)[x]=au A l x:=by simp[qv]
 have sF:=Fy (b:=0) hnd;have O8:(au A l x).length<=1048576:=by rw[<-AX];exact zP (D1 ..) hl
 have QH:∀k∈au A l x,k<l.length:=fun k hk=>D6 hk;obtain⟨V,hV⟩:∃V,V=tG A l cl x:=⟨_,rfl⟩;have QI:V.length=(au A l x).length:=by rw[hV];unfold tG;rw[zA]
 refine uX.enter Z0 call102 func102 rfl 74 rfl rfl [.tmp 6] rfl ?_;intro w0 F η0 h0;conv=>whnf
 repeat'(first|refine kF.at (Zk5 FJ (by omega)) ?_|refine AU ?_)<;>conv=>whnf
 rw[show(List.map Yf (qv A l)[x]).length=(au A l x).length by rw[zA,hIx]];obtain⟨L,hL⟩:∃L,L=au A l x:=⟨_,rfl⟩;have hrows:(qv A l)[x].map Yf=L.map Yf:=by rw[hIx,hL]
 rw[hrows];rw[<-hL]at O8 QH QI⊢
 have FK:∀i (h:i<L.length),V[i]'(by omega)=s8 A cl x (l[L[i]]'(QH _ (zm h))):=fun i h=>by
  subst hV hL;unfold tG;rw[yz,zl,z1 (D6 (zm h))];rfl
 refine wj.nil 7 16 rfl ?_;refine wj.jD Z0 [0,1,2,20,21] [3,6] (X:=Nat) (fun i=>i<=L.length) (fun i=>[(22, .int .i64 (i:Int)),(7, .sl (.loc 7) 0 16 i none)]) (fun i=>[(7, .rows 16 ((V.take i).map Z4))]) 8 (fun i=>L.length-i) 0 (by omega) ?_;conv=>whnf
 refine⟨by exact w5.cA h0,?_⟩;intro i hi;have QJ:(V.take i).length=i:=by rw[zu];omega
 conv=>whnf
 by_cases hil:i<L.length
 .have hk:=QH _ (zm hil);obtain⟨q,hq⟩:∃q,q=l[L[i]]:=⟨_,rfl⟩;have FL:=FK i hil;rw[<-hq]at FL;have bE:∀s∈Zx q,s∈A:=fun s hs=>hmem s (xB.2 ⟨q,by rw[hq];exact zm hk,hs⟩);have gL:∀{m:Nat},m=i->(L.map Yf)[m]?=some (Yf L[i]):=fun e=>by subst e;rw[z6,z1 hil];rfl
  have gQ:∀{m:Nat},m=L[i]->((l++z).map Z4)[m]?=some (Z4 q):=fun e=>by subst e;rw[hq,z6,zn hk,z1 hk];rfl
  have hT:=TG q;have hto:(V.take (i+1))=V.take i++ [s8 A cl x q]:=by rw[zH (by omega),FL]
  generalize V.take i=W at QJ hto⊢;clear FK hIx hV;repeat'(first|refine GET.at (gL (by omega)) ?_|refine GET.at (gQ (by omega)) ?_|refine AU ?_|refine IW ?_ ?_<;>intro h<;>try omega)<;>conv=>whnf
  refine CALL.aA [8] (hT) ?_;rintro r O nx ⟨rfl,rfl,rfl⟩;conv=>whnf
  skip
  refine wj.jD Z0 [0,1,2,7,10,20,21,22,33] [3,6,7] (X:=Nat) (fun j=>j<=4) (fun j=>[(34, .int .i64 (j:Int))]) (fun j=>[(8, .box (Z4 (oR A cl x q j)))]) 9 (fun j=>4-j) 0 (by omega) ?_;conv=>whnf
  refine⟨by rw[Zk8];exact w5.cA h0,?_⟩;intro j hj;conv=>whnf
  by_cases QA:j<4
  .have O9:j=0\/j=1\/j=2\/j=3:=by omega
   obtain⟨X,hX⟩:∃X,X=j:=⟨_,rfl⟩;rcases O9 with rfl|rfl|rfl|rfl
   all_goals rw[<-hX]at QA
   all_goals first
    |(rw[show oR A cl x q 0=⟨q.s,q.p,q.o,q.g⟩from rfl];obtain⟨t,ht,hsub,KA⟩:∃t,t=q.s/\(t.k=2->t.t∈A)/\∀u,Xr A cl x t=u->oR A cl x q (X+1)=⟨u,q.p,q.o,q.g⟩:=⟨_,rfl,fun h2=>bE _ (by unfold Zx ZS;simp[h2]),fun u hu=>by subst hX;unfold oR;simp[hu]⟩)
    |(rw[show oR A cl x q 1=⟨Xr A cl x q.s,q.p,q.o,q.g⟩from rfl];obtain⟨t,ht,hsub,KA⟩:∃t,t=q.p/\(t.k=2->t.t∈A)/\∀u,Xr A cl x t=u->oR A cl x q (X+1)=⟨Xr A cl x q.s,u,q.o,q.g⟩:=⟨_,rfl,fun h2=>bE _ (by unfold Zx ZS;simp[h2]),fun u hu=>by subst hX;unfold oR;simp[hu]⟩)
    |(rw[show oR A cl x q 2=⟨Xr A cl x q.s,Xr A cl x q.p,q.o,q.g⟩from rfl];obtain⟨t,ht,hsub,KA⟩:∃t,t=q.o/\(t.k=2->t.t∈A)/\∀u,Xr A cl x t=u->oR A cl x q (X+1)=⟨Xr A cl x q.s,Xr A cl x q.p,u,q.g⟩:=⟨_,rfl,fun h2=>bE _ (by unfold Zx ZS;simp[h2]),fun u hu=>by subst hX;unfold oR;simp[hu]⟩)
    |(rw[show oR A cl x q 3=⟨Xr A cl x q.s,Xr A cl x q.p,Xr A cl x q.o,q.g⟩from rfl];obtain⟨t,ht,hsub,KA⟩:∃t,t=q.g/\(t.k=2->t.t∈A)/\∀u,Xr A cl x t=u->oR A cl x q (X+1)=⟨Xr A cl x q.s,Xr A cl x q.p,Xr A cl x q.o,u⟩:=⟨_,rfl,fun h2=>bE _ (by unfold Zx ZS;simp[h2]),fun u hu=>by subst hX;unfold oR;simp[hu]⟩)
   all_goals
    repeat'(first|refine wm.mk ⟨by omega,by omega,rfl⟩ ?_|refine GET.at (row:=_) rfl ?_|(show wO _ _ _ _ _ _ _;first|refine Z3 10 Zk7 ?_)|refine qJ.mk (fun _ _=>?_)|refine AD ?_|refine IW ?_ ?_<;>intro h<;>try omega)<;>conv=>whnf
    .refine⟨X+1,by omega,by omega,?_⟩;rw[KA _ (O7 (by rw[ht];assumption)),ht];conv=>whnf
     exact w5.cA h0
    have h2:t.k=2:=by rw[ht];exact h
    have oQ:t.t∈A:=hsub h2;have kP:=yA oQ;have nG:A[A.idxOf t.t]=t.t:=x7 kP;have o7:nX 0 A t.t=((A.idxOf t.t:Nat):Int):=by unfold nX;rw[zh oQ];omega
    refine wm.mk ⟨KT.ok _,VL KT dw _⟩ ?_;rw[<-ht];refine bJ.A KT dw t.t (Xt 0 A A.length) (fun i v hf=>?_) (fun hf=>?_)
    rotate_left
    .have hg:=QC (b:=0) hnd A.length t.t (zo _);rw[UH hf,yg kP]at hg;cases hg
    have hv:=Fw hf;rw[sF,o7]at hv;subst hv;obtain⟨n0,hn0⟩:∃n0,n0=A.idxOf t.t:=⟨_,rfl⟩;rw[<-hn0]at kP⊢
    have gC:∀{m:Nat},m=n0->(cl.map Zg)[m]?=some (Zg ((cl[n0]'(by omega)).toNat:Int)):=fun{m} e=>by
     rw[e,z6,z1 (by omega)];have:=(jm _ (zm (show n0<cl.length by omega))).1;rw[vQ this];rfl
    have hcb:=jm _ (zm (show n0<cl.length by omega));have QK:=ZaU (cl[n0]'(by omega)).toNat (by omega);clear bE gL gQ hf;conv=>whnf
    repeat'(first|refine GET.at (gC (by omega)) ?_|refine CALL.value (QK) rfl rfl ?_|refine AU ?_|refine IW ?_ ?_<;>intro h<;>try omega)<;>conv=>whnf
    .refine⟨X+1,by omega,by omega,?_⟩;rw[KA _ (TM h2 (show A.idxOf t.t=x by omega))];conv=>whnf
     exact w5.cA h0
    .refine⟨X+1,by omega,by omega,?_⟩;have hne:¬A.idxOf t.t=x:=by omega
     have dJ:=TN (cl:=cl) h2 hne;rw[<-hn0,zl,z1 (show n0<cl.length by omega),Option.getD_some]at dJ;rw[KA _ dJ];conv=>whnf
     exact w5.cA h0
  .have QA:j=4:=by omega
   subst QA;rw[Zk9];repeat'(first|refine wm.mk (Zm 224 rfl rfl (by simp) (by simp;omega) (by omega)) ?_|refine IW ?_ ?_<;>intro h<;>try omega)<;>conv=>whnf
   all_goals
    rw[ZlQ W (s8 A cl x q) QJ.symm,<-hto];refine⟨i+1,by omega,by omega,?_⟩;conv=>whnf
    exact w5.kA h0 [6,10]
 .have hie:i=L.length:=by omega
  subst hie;rw[zi (by omega)];have TQ:=Tb V (by omega);rw[QI]at TQ;repeat'(first|refine IW ?_ ?_<;>intro h<;>try omega)<;>conv=>whnf
  refine CALL.aA [7] (TQ) ?_;rintro r O nx ⟨rfl,rfl,rfl⟩;conv=>whnf
  skip
  have b8:Yu A l cl x=V.mergeSort (kK ZM):=by unfold Yu;rw[hV]
  have gE:(Yu A l cl x).length=L.length:=by rw[b8,yw,QI]
  rw[<-b8,<-hrows];refine qx.fin (qx.dZ 3 x 0 6 rfl (To FJ (by omega)) rfl rfl (by rw[zA,hIx];rw[hL];exact zo _) (by decide)) ?_;rw[Zga FJ (by omega) (by rw[hIx];exact ze List.length hL)];rw[<-gE];exact wh.aA h0 [7] (.sl (.loc 6) 0 16 (Yu A l cl x).length none) [(3, .deep false 1 (kL (qv A l))),(6, .rows 16 ((Yu A l cl x).map Z4))] ⟨rfl,rfl,rfl⟩
end Go.Proofs.YtlcbipfmodcedaaGreatDoor
namespace Go.Proofs.YtlcbipfmodcedaaGreatDoor
open Go.Sx Go.Our Go.Shelf
open _root_.Go.Proofs.Tryz
def QL(s:List Qd):List DC:=[.wZ 16 (s.map Z4)]
def aW(sg:List (List Qd)):List (List DC):=sg.map QL
theorem ZmC:∀sg:List (List Qd),YU (aW sg)=true
 | []=>rfl
 |s::sg=>by simp only[aW,zI,QL,YU,JM,ia,Zy,zD,vo];exact ZmC sg
instance {sg:List (List Qd)}:GO (aW sg):=⟨ZmC sg⟩
theorem Oa{sg:List (List Qd)}{i:Nat}(h:i<sg.length):(aW sg)[i]?=some (QL sg[i]):=by unfold aW;rw[z6,z1 h];rfl
theorem Zka(sg:List (List Qd)):(aW sg).length=sg.length:=by simp[aW]
theorem Zkb{sg:List (List Qd)}{i k:Nat}(h:i<sg.length)(hk:k=i):nK (aW sg) k 0=some (k, .wZ 16 (sg[i].map Z4)):=by
 subst hk;unfold nK;rw[Oa h];rfl
theorem ZdH(n:Nat):ER (List.replicate n [SV.val (.slice none 0 0)]) (aW (List.replicate n [])):=by
 refine⟨by simp[aW],fun a row' h=>?_⟩;unfold aW at h;rw[x8]at h;obtain⟨ha,hr⟩:=zf.1 h;rw[yN]at ha;rw[u0]at hr;subst hr;refine⟨_,by rw[vW,zh ha],?_⟩;exact And.intro (.inr ⟨rfl,16,rfl⟩) trivial
theorem Zkc{sg:List (List Qd)}{x k:Nat}{s:List Qd}{rows:List (List SV)}{n:Nat}(hk:k=x)(hr:rows.take n=s.map Z4):q9 (aW sg) k 0 (.wZ 16 (rows.take n))=aW (sg.set x s):=by
 subst hk;exact ZhJ (es:=16) (f:=Z4) rfl hr
theorem ZlY{K:Env}{w:World}{i:Nat}{sg:List (List Qd)}{R:List (List SV)}(h:dD K w i 1 (aW sg) R):∃vs:List Value,vs.length=sg.length/\R=vs.map Kz/\∀x (hx:x<vs.length) (hs:x<sg.length),∃en,qj w vs[x] 16 (sg[x].map Z4) en:=by
 have hl:=h.len;rw[Zka]at hl
 have key:∀x (hx:x<sg.length),∃v,R[x]?=some [.val v]/\∃en,qj w v 16 (sg[x].map Z4) en:=fun x hx=>by
  obtain⟨fC,v,h1,h2,h3⟩:=h.ck x 0 (QL sg[x]) 16 (sg[x].map Z4) (Oa hx) rfl;have h4:=h.lens x _ _ (Oa hx) h1;obtain⟨en,h5⟩:=TC h3 (Zy _);refine⟨v,?_,en,h5⟩;rw[h1]
  match fC,h2,h4 with
  | [c],h2,_=>
    simp only[List.getElem?_cons_zero,zj]at h2;rw[h2]
 let vf:Nat->Value:=fun x=>match R[x]? with|some (.val v::_)=>v|_=>undef
 refine⟨(List.range sg.length).map vf,by simp,?_,fun x hx hs=>?_⟩
 .apply yx;intro x;by_cases hx:x<sg.length
  .obtain⟨v,h1,_⟩:=key x hx;rw[h1,z6,z6,yG hx];simp only[Option.map_some,Kz,vf,h1]
  rw[zS (by omega),zS (by simp;omega)]
 .obtain⟨v,h1,en,h2⟩:=key x hs;refine⟨en,?_⟩;simp only[yz,x6,vf,h1];exact h2
theorem Ob{M:Mx}{O:w9}{K:Env}{w:World}{i es j:Nat}{R:List (List SV)}(h:j≠i):Yk (rE M O K w i es R).C [] (.loc j)=Yk M.C O (.loc j):=by
 have hb:Nat.beq j i=false:=by rw[<-uK];intro h3;exact h (uc h3)
 have e:Yk (rE M O K w i es R).C [] (.loc j)=jd (.loc j) (WG O++M.C.S):=by
  simp only[Yk,wu,rE,jd,ow,hb];rfl
 exact e.trans CU
theorem Zgd{M:Mx}{O:w9}{K:Env}{w:World}{i es:Nat}{R:List (List SV)}:Yk (rE M O K w i es R).C [] (.loc i)=some (.rows es R):=by
 simp only[Yk,wu,rE,jd,ow,uF]
def sJ(A:List LB)(l:List Qd)(cl:List Int):List (List Qd):=(List.range cl.length).map (Yu A l cl)
theorem TR{C:Cx}{w0:World}{F:Nat->Prop}{η0:Env}{px:Option (Fr×(SV->w9->Nat->Prop))}{O:w9}{nx:Nat}(A:List LB)(l:List Qd)(cl:List Int)(hT:C.T=wD)(h6:Yk C O (.loc 6)=some (.box [.sl (.loc 4) 0 1 cl.length none]))(h8:Yk C O (.loc 8)=some (.box [.sl (.loc 7) 0 1 cl.length none]))
 (h4:Yk C O (.loc 4)=some (.rows 1 (cl.map Zg))) (h7:wu 7 O=some (.deep false 1 (aW (sJ A l cl)))) (cr:8<nx) (hl:∀x,(Yu A l cl x).length<=1152921504606846976) (a b:Nat) (ha:a<cl.length) (hb:b<cl.length):
 bB ⟨prog,C,w0,F,η0,px⟩ 103 [.int .i64 (a:Int), .int .i64 (b:Int), .ptr (.loc 6) 0 0 0, .ptr (.loc 8) 0 0 0] O nx (.int .i64 (UZ A l cl a b)):=by
 refine bB.raw h7 rfl fun K w R H hR=>?_;obtain⟨vs,hvl,rfl,cZ⟩:=ZlY hR;have gE:(sJ A l cl).length=cl.length:=by simp[sJ]
 rw[gE]at hvl;have hsx:∀x (h:x< (sJ A l cl).length),(sJ A l cl)[x]=Yu A l cl x:=fun x h=>by simp[sJ]
 refine CALL.Ky (G:=fun w=> ∀x (h:x<vs.length),∃en,qj w vs[x] 16 ((Yu A l cl x).map Z4) en) [6,8,4,7] (hT▸Z9A A l cl vs a b ha hb hvl hl) (fun η' w' H' x h=>?_) rfl (fun i hi=>?_) rfl rfl (fun p hp=>by cases hp) (fun j hj=>by cases hj) (fun p hp=>?_) ?_
 .obtain⟨en,he⟩:=cZ x h (by omega);rw[hsx]at he;exact⟨en,he.now H'.fr (fun k h=>h)⟩
 .simp only[zK,xA,uw]at hi;omega
 .simp only[zK,xA,uw]at hp;rcases hp with rfl|rfl|rfl|rfl
  exact⟨by show 0<4;omega,(Ob (show(6:Nat)≠7 by omega)).trans h6,rfl,fun h=>by cases h⟩;exact⟨by show 1<4;omega,(Ob (show(8:Nat)≠7 by omega)).trans h8,rfl,fun h=>by cases h⟩
  .refine⟨by show 2<4;omega,?_,Yr (Vx _),fun h=>by cases h⟩;rw[Zu _ (h:= .rows 1 (cl.map Zg)) (Vx _)];exact(Ob (show(4:Nat)≠7 by omega)).trans h4
  .refine⟨by show 3<4;omega,?_,Yr (ZH _ (fun _=>rfl) _),fun h=>by cases h⟩;rw[Zu _ (h:= .rows 1 (vs.map Kz)) (ZH _ (fun _=>rfl) _)];exact Zgd
 .rintro r O' w8 ⟨rfl,rfl,rfl⟩
  rfl
open _root_.Go.Proofs.Tryz
def Zkd:wP:=(.take 1 1 (.take 2 1 (.take 3 1 (.take 4 1 (.take 5 1 (.take 8 1 (.take 6 2 (.fork 0 3 7 0 (Zr [(7,0),(9,1),(10,0),(11,1),(12,0)]) (Zr [(0,2),(9,1),(10,0),(11,1),(12,0)])))))))))
def Zge:Go.Shelf.Ren:=⟨fun|6=>105|15=>114|14=>137|28=>150|29=>151|20=>182|21=>183|22=>184|23=>185|24=>186|25=>187|26=>188|27=>189|46=>228|47=>196|48=>197|49=>229|50=>230|57=>276|n=>n,fun|22=>72|24=>3|25=>165|3=>3|39=>177|0=>0|53=>157|55=>162|4=>4|46=>208|45=>207|50=>103|5=>5|9=>9|66=>250|70=>87|76=>292|77=>130|n=>n,fun|n=>n⟩
theorem Zmy:Go.Proofs.SlLaysF.n6 prog Zge where
 mixed:=by kernel_rfl
 f6:=⟨f105.name,by decide,func105.trans (ze some (by kernel_rfl))⟩
 f14:=⟨f137.name,by decide,func137.trans (ze some (by kernel_rfl))⟩
 f15:=func114.trans (ze some (by kernel_rfl))
 f20:=⟨f182.name,by decide,func182.trans (ze some (by kernel_rfl))⟩
 f21:=⟨f183.name,by decide,func183.trans (ze some (by kernel_rfl))⟩
 f22:=⟨f184.name,by decide,func184.trans (ze some (by kernel_rfl))⟩
 f23:=⟨f185.name,by decide,func185.trans (ze some (by kernel_rfl))⟩
 f24:=⟨f186.name,by decide,func186.trans (ze some (by kernel_rfl))⟩
 f25:=⟨f187.name,by decide,func187.trans (ze some (by kernel_rfl))⟩
 f26:=⟨f188.name,by decide,func188.trans (ze some (by kernel_rfl))⟩
 f27:=⟨f189.name,by decide,func189.trans (ze some (by kernel_rfl))⟩
 f28:=func150.trans (ze some (by kernel_rfl))
 f29:=func151.trans (ze some (by kernel_rfl))
 f46:=⟨f228.name,by decide,func228.trans (ze some (by kernel_rfl))⟩
 f47:=func196.trans (ze some (by kernel_rfl))
 f48:=func197.trans (ze some (by kernel_rfl))
 f49:=⟨f229.name,by decide,func229.trans (ze some (by kernel_rfl))⟩
 f50:=⟨f230.name,by decide,func230.trans (ze some (by kernel_rfl))⟩
 f57:=⟨f276.name,by decide,func276.trans (ze some (by kernel_rfl))⟩
 t0:=underlying0
 a0:=isAgg0
 z0:=sizeOf0
 v0:=zeroValue0
 t3:=underlying3
 a3:=isAgg3
 z3:=sizeOf3
 v3:=zeroValue3
 t4:=underlying4
 a4:=isAgg4
 z4:=sizeOf4
 v4:=zeroValue4
 t5:=underlying5
 a5:=isAgg5
 z5:=sizeOf5
 v5:=zeroValue5
 t9:=underlying9
 a9:=isAgg9
 z9:=sizeOf9
 v9:=zeroValue9
 t22:=underlying72
 a22:=isAgg72
 z22:=sizeOf72
 v22:=zeroValue72
 a24:=isAgg3
 z24:=sizeOf3
 t25:=underlying165
 a25:=isAgg165
 z25:=sizeOf165
 v25:=zeroValue165
 t39:=underlying177
 a39:=isAgg177
 z39:=sizeOf177
 v39:=zeroValue177
 t45:=underlying207
 a45:=isAgg207
 z45:=sizeOf207
 v45:=zeroValue207
 t46:=underlying208
 a46:=isAgg208
 z46:=sizeOf208
 v46:=zeroValue208
 t50:=underlying103
 a50:=isAgg103
 z50:=sizeOf103
 v50:=zeroValue103
 t53:=underlying157
 a53:=isAgg157
 z53:=sizeOf157
 v53:=zeroValue157
 t55:=underlying162
 a55:=isAgg162
 z55:=sizeOf162
 v55:=zeroValue162
 t66:=underlying250
 a66:=isAgg250
 z66:=sizeOf250
 v66:=zeroValue250
 t70:=underlying87
 a70:=isAgg87
 z70:=sizeOf87
 v70:=zeroValue87
 t76:=underlying292
 a76:=isAgg292
 z76:=sizeOf292
 v76:=zeroValue292
 t77:=underlying130
 a77:=isAgg130
 z77:=sizeOf130
 v77:=zeroValue130
def oS{K:Type}(f:Nat->K)(z:K)(n x:Nat):List K:=(List.range n).map fun y=>if y<x then f y else z
section
variable {K:Type}{f:Nat->K}{z:K}{n:Nat}
theorem FM(x:Nat):(oS f z n x).length=n:=by simp[oS]
theorem TS:oS f z n 0=List.replicate n z:=by
 unfold oS;rw[vE];simp
theorem TT:oS f z n n=(List.range n).map f:=by
 unfold oS;refine yO fun y hy=>zh (yh.1 hy)
theorem TV{x:Nat}(h:x<n):(oS f z n x).set x (f x)=oS f z n (x+1):=by
 apply x9 (by rw[xE,FM,FM]);intro i h1 h2;rw[FM]at h2;rw[vK];have e1:∀y (h:i< (oS f z n y).length),(oS f z n y)[i]=if i<y then f i else z:=fun y h=>by simp[oS]
 rw[e1,e1];by_cases e:x=i
 subst e;rw[zh rfl,zh (by omega)]
 .rw[z7 e];by_cases h3:i<x
  rw[zh h3,zh (by omega)];rw[z7 h3,z7 (by omega)]
end
structure fN(A:List LB)(l:List Qd)(cl:List Int):Prop where
 cn:cl.length=A.length
 few:A.length<=4096
 ln:l.length<=1048576
 nd:A.Nodup
 mem:∀s∈ZE l,s∈A
 cs:∀c∈cl,0<=c/\c<10000
theorem Oj{A:List LB}{l:List Qd}{cl:List Int}(hl:l.length<=1048576)(x:Nat):(Yu A l cl x).length<=1048576:=by
 unfold Yu tG;rw[yw,zA,<-AX];exact zP (D1 ..) hl
theorem ZlZ{l:List Nat}{k x v:Nat}(hk:k=x):(l.map Yf).set k [.int .i64 (v:Int)]=(l.set x v).map Yf:=by
 subst hk;rw[xQ];rfl
theorem ZhQ{sg:List (List Qd)}{x k:Nat}{s:List Qd}{rows:List (List SV)}{n:Nat}(hk:k=x)(hr:rows.take n=s.map Z4):((aW sg).modify k fun row=>row.set 0 (.wZ 16 (rows.take n)))=aW (sg.set x s):=Zkc hk hr
theorem Zgh(A:List LB)(l z:List Qd)(lim:Option Nat)(cl:List Int)(bF:fN A l cl)(hz:(l++z).length<=1152921504606846976):
 uX prog wD 63 6 [.ptr (.loc 0) 0 0 0, .sl (.loc 4) 0 1 A.length none] [(3, .deep false 1 (kL (qv A l)))] [(0,FI l.length lim A.length),(1, .rows 16 ((l++z).map Z4)),(2, .mp (kU (Xt 0 A A.length))),(4, .rows 1 (cl.map Zg))]
 (fun r O nx=>r= .sl (.loc 6) 0 1 A.length none/\O=[(3, .deep false 1 (kL (qv A l))),(6, .rows 1 ((Yx A l cl).map Zg))]/\nx=7):=by
 have gm:=bF.cn;have bD:=bF.few;have hsn:∀x,x<A.length->_:=fun x hx=>Zgb A l z lim cl x hx bF.cn bF.few bF.ln bF.nd bF.mem bF.cs hz;refine uX.enter Z0 call63 func63 rfl 79 rfl rfl [.tmp 4] rfl ?_;intro w0 F η0 h0;conv=>whnf
 repeat'(first|refine wm.mk (UN 24 rfl (by omega) (by omega) (by omega) (by omega)) ?_)<;>conv=>whnf
 rw[Int.toNat_natCast];refine qx.loop (qx.bY 7 (aW (List.replicate A.length [])) rfl (ZdH _)) ?_;rw[show List.replicate A.length [SV.int .i64 0]=(List.replicate A.length 0).map Yf by rw[x8];rfl,<-TS (f:=Yu A l cl),<-TS (f:=fun y=>y)];refine wj.jD Z0 [0,3,5,6,19] [6,8] (X:=Nat) (fun x=>x<=A.length) (fun x=>[(20, .int .i64 (x:Int))]) (fun x=>[(3, .deep false 1 (kL (qv A l))),(7, .deep false 1 (aW (oS (Yu A l cl) [] A.length x))),(9, .rows 1 ((oS (fun y=>y) 0 A.length x).map Yf))]) 10 (fun x=>A.length-x) 0 (by omega) ?_;conv=>whnf
 refine⟨by exact w5.cA h0,?_⟩;intro x hx;conv=>whnf
 by_cases hxl:x<A.length
 .have hs:=hsn x hxl
  have gO:∀{m:Nat},m=x->((oS (fun y=>y) 0 A.length x).map Yf)[m]?=some (Yf 0):=fun e=>by
   subst e;rw[z6,z1 (by rw[FM];exact hxl)];simp[oS]
  repeat'(first|(show wO _ _ _ _ _ _ _;first|refine Z3 6 Zkd ?_)|refine qJ.mk (fun _ _=>?_)|refine AD ?_|refine j9.mk ?_ ?_|refine IW ?_ ?_<;>intro h<;>try omega)<;>conv=>whnf
  all_goals
   refine CALL.aA [0,1,2,3,4,5] (hs) ?_;rintro r O nx ⟨rfl,rfl,rfl⟩;conv=>whnf
   repeat'(first|refine kF.at (Zkb (by rw[FM];exact hxl) (by omega)) ?_|refine wm.mk (show(Yu A l cl x).length<=(Xo _ _).length by rw[Zb _ (Zy _),zA];exact zo _) ?_|refine GET.at (gO (by omega)) ?_|refine AD ?_|refine AU ?_)<;>conv=>whnf
  all_goals
   rw[ZhQ (x:=x) (s:=Yu A l cl x) (by omega) (by rw[Zb _ (Zy _),zi (by simp)]),TV hxl,ZlZ (x:=x) (by omega),TV (f:=fun y=>y) hxl];refine⟨x+1,by omega,by omega,?_⟩;conv=>whnf
   exact w5.kA h0 [6,7,8,9]
 .have K5:x=A.length:=by omega
  subst K5;rw[TT,TT,List.map_id'];have b8:(List.range A.length).map (Yu A l cl)=sJ A l cl:=by unfold sJ;rw[gm]
  rw[b8];repeat'(first|refine IW ?_ ?_<;>intro h<;>try omega)<;>conv=>whnf
  refine CALL.FC (ρ:=_) Zmy call105 (g:=103) call103 rfl rfl (cf:=UZ A l cl) (l:=List.range A.length) (n:=A.length) (i:=9) (yU).symm (by rfl) (fun x hx=>yh.1 hx) (by rw[yU];omega) (VM A l cl) (fun a b ha hb=>?_) (fun l' hp hs=>?_);exact TR A l cl rfl (by rw[gm];rfl) (by rw[gm];rfl) rfl rfl (by omega) (fun x=>zP (Oj bF.ln x) (by omega)) a b (by omega) (by omega);have fh:l'.length=A.length:=by rw[hp.length_eq,yU]
  have bh:∀x∈l',x<A.length:=fun x hx=>yh.1 (hp.mem_iff.1 hx);have hnd:l'.Nodup:=hp.symm.nodup vh;have hpre:=VM A l cl;obtain⟨c,hc⟩:∃c,c=UZ A l cl:=⟨_,rfl⟩;have hstep:Yx A l cl=kq c l' A.length l'.length:=by rw[Oe hp,hc];unfold Yx;rw[gm]
  conv=>whnf
  repeat'(first|refine wm.mk (UN 8 rfl (by omega) (by omega) (by omega) (by omega)) ?_)<;>conv=>whnf
  rw[Int.toNat_natCast,show List.replicate A.length [SV.int .i64 0]=(List.replicate A.length 0).map Zg by rw[x8];rfl,<-Od (c:=c) (o:=l')];refine wj.jD Z0 [6,8,9,42,43] [6,8] (X:=Nat) (fun i=>i<=l'.length) (fun i=>[(44, .int .i64 (i:Int))]) (fun i=>[(3, .deep false 1 (kL (qv A l))),(7, .deep false 1 (aW (sJ A l cl))),(9, .rows 1 (l'.map Yf)),(10, .rows 1 ((kq c l' A.length i).map Zg))]) 11 (fun i=>l'.length-i) 0 (by omega) ?_;conv=>whnf
  refine⟨by exact w5.cA h0,?_⟩;intro i hi;conv=>whnf
  by_cases hil:i<l'.length
  .have bG:=bh _ (zm hil);have gO:∀{k m:Nat} (h:k<l'.length),m=k->(l'.map Yf)[m]?=some (Yf l'[k]):=fun h e=>by subst e;rw[z6,z1 h];rfl
   obtain⟨v0,kH⟩:∃v0,∀{m:Nat},m=l'[i]->((kq c l' A.length i).map Zg)[m]?=some (Zg v0):=⟨(kq c l' A.length i)[l'[i]]'(by rw[Ju];exact bG),fun e=>by
    subst e;rw[z6,z1 (by rw[Ju];exact bG)];rfl⟩
   rcases i with _|j
   .have hr:=KB (c:=c) hnd hil bG (v:=0) (by rw[Oh (by rw[hc];exact hpre) (by rw[hc];exact hs)];rfl);repeat'(first|refine GET.at (gO hil (by omega)) ?_|refine GET.at (kH (by omega)) ?_|refine AU ?_|refine IW ?_ ?_<;>intro h<;>try omega)<;>conv=>whnf
    all_goals first|(exfalso;omega)|skip
    rw[Uk (x:=l'[0]) (by omega)];refine⟨1,by omega,by omega,?_⟩;rw[<-hr];conv=>whnf
    exact w5.kA h0 [6,7,8,9,10]
   .have hj:j<l'.length:=by omega
    have hjn:=bh _ (zm hj);have hne:l'[j]≠l'[j+1]:=fun e=>by have:=(xm hnd).1 e;omega
    have cr:=Oi (c:=c) (by rw[hc];exact hpre) (by rw[hc];exact hs) hil;have ku:=fun(v:Int) (hv:v=(qG c l' l'[j+1]:Int))=>KB (c:=c) hnd hil bG hv;have hgt:=Og (c:=c) (n:=A.length) (i:=j+1) (ua j) hj hjn
    have gS:∀{m:Nat},m=l'[j]->(((kq c l' A.length (j+1)).set l'[j+1] ((j+1:Nat):Int)).map Zg)[m]?=some (Zg (qG c l' l'[j]:Int)):=fun e=>by
     subst e;rw[z6,List.getElem?_set_ne (yX hne),hgt];rfl
    have gX:∀{m:Nat},m=l'[j+1]->(((kq c l' A.length (j+1)).set l'[j+1] ((j+1:Nat):Int)).map Zg)[m]?=some (Zg ((j+1:Nat):Int)):=fun e=>by
     subst e;rw[z6,vu (by rw[Ju];exact bG)];rfl
    repeat'(first|refine GET.at (gO hil (by omega)) ?_|refine GET.at (kH (by omega)) ?_|refine GET.at (gO hj (by rw[Z5 (by omega) (by omega)];omega)) ?_|refine CALL.quiet (TR A l cl rfl (by rw[gm];rfl) (by rw[gm];rfl) rfl rfl (by omega) (fun x=>zP (Oj bF.ln x) (by omega)) l'[j] l'[j+1] (by omega) (by omega)) ?_|rw[Uk (x:=l'[j+1]) (by omega)];refine GET.at (gS (by omega)) ?_|refine GET.at (gX (by omega)) ?_|refine AU ?_|refine IW ?_ ?_<;>intro h<;>try omega)<;>conv=>whnf
    all_goals first|(exfalso;omega)|skip
    .have hr:=ku (qG c l' l'[j]:Int) (by rw[cr,zh (by rw[hc];assumption)]);rw[Uk (x:=l'[j+1]) (by omega),List.set_set,hr];refine⟨j+2,by omega,by omega,?_⟩;conv=>whnf
     exact w5.kA h0 [6,7,8,9,10]
    .have hr:=ku ((j+1:Nat):Int) (by rw[cr,z7 (by rw[hc];assumption)]);rw[Uk (x:=l'[j+1]) (by omega),hr];refine⟨j+2,by omega,by omega,?_⟩;conv=>whnf
     exact w5.kA h0 [6,7,8,9,10]
  .have hie:i=l'.length:=by omega
   subst hie;repeat'(first|refine IW ?_ ?_<;>intro h<;>try omega)<;>conv=>whnf
   rw[<-hstep];exact wh.aA h0 [10] (.sl (.loc 6) 0 1 A.length none) [(3, .deep false 1 (kL (qv A l))),(6, .rows 1 ((Yx A l cl).map Zg))] ⟨rfl,rfl,rfl⟩
end Go.Proofs.YtlcbipfmodcedaaGreatDoor
namespace Go.Proofs.YtlcbipfmodcedaaGreatDoor
open Go.Sx Go.Our Go.Lib
open _root_.Go.Proofs.Tryz
theorem Zb0(cl:List Int)(hc:cl.length<=1048576):uX prog wD 190 2 [.val (.slice none 0 0), .fn (.func 140) [] [.ptr (.loc 0) 0 0 0]] [] [(0, .box [.sl (.loc 1) 0 1 cl.length none]),(1, .rows 1 (cl.map Zg))]
 (fun r O nx=>r= .sl (.loc 2) 0 1 cl.length none/\O=[(2, .rows 1 (cl.map Zg))]/\nx=3):=by
 have gC:∀{i k:Nat} (h:i<cl.length),k=i->(cl.map Zg)[k]?=some (Zg cl[i]):=fun h e=>by subst e;rw[z6,z1 h];rfl
 refine uX.enter Z0 call190 func190 rfl 13 rfl rfl [.tmp 4] rfl ?_;intro w0 F η0 h0;conv=>whnf
 skip
 refine jK.of Z0 (gf:=140) (g:=140) (fn:=f140) (cap:=[.ptr (.loc 0) 0 0 0]) call140 func140 rfl 16 rfl _ rfl rfl rfl rfl rfl ?_;conv=>whnf
 have hout:=h0;intro η1 h0;conv=>whnf
 refine wj.qC 2 0 1 rfl rfl ?_;refine wj.jD Z0 [0,5,6] [3,4] (X:=Nat) (fun i=>i<=cl.length) (fun i=>[(7, .int .i64 (i:Int))]) (fun i=>[(2, .box [.sl (.loc 5) 0 1 i none]),(5, .rows 1 ((cl.take i).map Zg))]) 6 (fun i=>cl.length-i) 0 (by omega) ?_;conv=>whnf
 refine⟨by exact w5.kA h0 [5],?_⟩;intro i hi;have QJ:(cl.take i).length=i:=by rw[zu];omega
 conv=>whnf
 by_cases hil:i<cl.length
 .have hs:cl.take (i+1)=cl.take i++ [cl[i]]:=zH hil;generalize cl.take i=W at QJ hs⊢;repeat'(first|refine GET.at (gC hil (by omega)) ?_|refine AU ?_|refine IW ?_ ?_<;>intro h<;>try omega)<;>conv=>whnf
  refine bf.of Z0 rfl rfl rfl ?_;intro η2 ro2 h2;conv=>whnf
  repeat'(first|refine wm.mk (Zm 8 rfl rfl (by simp) (by simp;omega) (by omega)) ?_|refine IW ?_ ?_<;>intro h<;>try omega)<;>conv=>whnf
  rw[ZlP W cl[i] QJ.symm,<-hs];refine⟨i+1,by omega,by omega,?_⟩;conv=>whnf
  exact w5.kA h0 [7]
 .have hie:i=cl.length:=by omega
  subst hie;rw[zi (zo _)];repeat'(first|refine IW ?_ ?_<;>intro h<;>try omega)<;>conv=>whnf
  have h0:=hout;exact wh.aA hout [5] (.sl (.loc 2) 0 1 cl.length none) [(2, .rows 1 (cl.map Zg))] ⟨rfl,rfl,rfl⟩
theorem Z9F(i n:Nat)(lim:Option Nat):uX prog wD 107 1 [.sl (.loc 0) i 1 n lim] [] []
 (fun r O nx=>r= .fn (.func 140) [] [.ptr (.loc 1) 0 0 0]/\O=[(1, .box [.sl (.loc 0) i 1 n lim])]/\nx=2):=by
 refine uX.enter Z0 call107 func107 rfl 4 rfl rfl [.tmp 2] rfl ?_;intro w0 F η0 h0;conv=>whnf
 skip
 refine wh.at h0 [1] (.fn (.func 140) [] [.ptr (.loc 1) 0 0 0]) [(1, .box [.sl (.loc 0) i 1 n lim])] rfl rfl rfl rfl ⟨rfl,trivial⟩ rfl ⟨rfl,rfl,rfl⟩
theorem Z7L(cl:List Int)(hc:cl.length<=1048576):uX prog wD 138 2 [.fn (.func 140) [] [.ptr (.loc 0) 0 0 0]] [] [(0, .box [.sl (.loc 1) 0 1 cl.length none]),(1, .rows 1 (cl.map Zg))]
 (fun r O nx=>r= .sl (.loc 2) 0 1 cl.length none/\O=[(2, .rows 1 (cl.map Zg))]/\nx=3):=by
 have hA:=Zb0 cl hc;refine uX.enter Z0 call138 func138 rfl 5 rfl rfl [.tmp 2] rfl ?_;intro w0 F η0 h0;conv=>whnf
 skip
 refine CALL.aA [0,1] (hA) ?_;rintro r O nx ⟨rfl,rfl,rfl⟩;conv=>whnf
 skip
 exact wh.aA h0 [2] (.sl (.loc 2) 0 1 cl.length none) [(2, .rows 1 (cl.map Zg))] ⟨rfl,rfl,rfl⟩
theorem Z9G(cl:List Int)(hc:cl.length<=1048576):uX prog wD 106 2 [.fn (.func 140) [] [.ptr (.loc 0) 0 0 0]] [] [(0, .box [.sl (.loc 1) 0 1 cl.length none]),(1, .rows 1 (cl.map Zg))]
 (fun r O nx=>r= .sl (.loc 2) 0 1 (cl.mergeSort (kK qF)).length none/\O=[(2, .rows 1 ((cl.mergeSort (kK qF)).map Zg))]/\nx=3):=by
 have hA:=Z7L cl hc;have hS:=ZdJ cl (by omega);refine uX.enter Z0 call106 func106 rfl 9 rfl rfl [.tmp 2] rfl ?_;intro w0 F η0 h0;conv=>whnf
 skip
 refine CALL.aA [0,1] (hA) ?_;rintro r O nx ⟨rfl,rfl,rfl⟩;conv=>whnf
 skip
 refine CALL.aA [2] (hS) ?_;rintro r O nx ⟨rfl,rfl,rfl⟩;conv=>whnf
 skip
 rw[<-yw (le:=kK qF) cl];exact wh.aA h0 [2] (.sl (.loc 2) 0 1 (cl.mergeSort (kK qF)).length none) [(2, .rows 1 ((cl.mergeSort (kK qF)).map Zg))] ⟨rfl,rfl,rfl⟩
theorem I4(cl:List Int)(hc:cl.length<=1048576):uX prog wD 64 1 [.sl (.loc 0) 0 1 cl.length none] [] [(0, .rows 1 (cl.map Zg))] (fun r O nx=>r= .int .i64 (kj cl:Int)/\O=[]/\nx=1):=by
 have hl:=yw (le:=kK qF) cl;have hS:=Z9G cl hc;have hC:=Z7K (cl.mergeSort (kK qF)) (by omega);have hV:=Z9F 0 cl.length none;rw[ZhR cl]at hC;refine uX.enter Z0 call64 func64 rfl 10 rfl rfl [.tmp 2] rfl ?_;intro w0 F η0 h0;conv=>whnf
 skip
 refine CALL.aA [0] (hV) ?_;rintro r O nx ⟨rfl,rfl,rfl⟩;conv=>whnf
 skip
 refine CALL.aA [1,0] (hS) ?_;rintro r O nx ⟨rfl,rfl,rfl⟩;conv=>whnf
 skip
 refine CALL.aA [2] (hC) ?_;rintro r O nx ⟨rfl,rfl,rfl⟩;conv=>whnf
 skip
 exact wh.aA h0 [] (.int .i64 (kj cl:Int)) [] ⟨rfl,rfl,rfl⟩
open _root_.Go.Proofs.Tryz
theorem fN.step{A:List LB}{l:List Qd}{cl:List Int}(h:fN A l cl):fN A l (Yx A l cl):=by
 refine⟨by rw[X0,h.cn],h.few,h.ln,h.nd,h.mem,fun c hc=>?_⟩;have h1:=RF A l cl c hc;have h2:=h.cn;have h3:=h.few;exact⟨h1.1,by omega⟩
theorem I5(A:List LB)(l z:List Qd)(lim:Option Nat)(cl:List Int)(bF:fN A l cl)(hz:(l++z).length<=1152921504606846976):
 uX prog wD 31 6 [.ptr (.loc 0) 0 0 0, .sl (.loc 4) 0 1 A.length none] [(3, .deep false 1 (kL (qv A l))),(4, .rows 1 (cl.map Zg))] [(0,FI l.length lim A.length),(1, .rows 16 ((l++z).map Z4)),(2, .mp (kU (Xt 0 A A.length)))]
 (fun r O nx=> ∃F,Refs A l cl F/\r= .sl (.loc 6) 0 1 A.length none/\O=[(3, .deep false 1 (kL (qv A l))),(6, .rows 1 (F.map Zg))]/\nx=7):=by
 have bD:=bF.few;refine uX.enter Z0 call31 func31 rfl 16 rfl rfl [.tmp 4] rfl ?_;intro w0 F η0 h0;conv=>whnf
 skip
 refine wj.jD Z0 [0] [0,1,2] (X:=List Int) (fun c=>fN A l c/\∀F,Refs A l c F->Refs A l cl F) (fun c=>[(1, .sl (.loc 6) 0 1 A.length none)]) (fun c=>[(3, .deep false 1 (kL (qv A l))),(6, .rows 1 (c.map Zg))]) 7 (fun c=>A.length-kj c) cl ⟨bF,fun F h=>h⟩ ?_;conv=>whnf
 refine⟨by exact w5.kA h0 [4],?_⟩;rintro c ⟨hc,hR⟩;have hS:=Zgh A l z lim c hc hz;have hc1:=I4 (Yx A l c) (by rw[X0,hc.cn];omega);have hc0:=I4 c (by rw[hc.cn];omega);rw[X0,hc.cn]at hc1;rw[hc.cn]at hc0;conv=>whnf
 skip
 refine CALL.aA [0,1,2,3,6,5] (hS) ?_;rintro r O nx ⟨rfl,rfl,rfl⟩;conv=>whnf
 skip
 refine CALL.aA [7] (hc1) ?_;rintro r O nx ⟨rfl,rfl,rfl⟩;conv=>whnf
 skip
 refine CALL.aA [6] (hc0) ?_;rintro r O nx ⟨rfl,rfl,rfl⟩;conv=>whnf
 repeat'(first|refine IW ?_ ?_<;>intro h<;>try omega)<;>conv=>whnf
 .have hst:kj (Yx A l c)=kj c:=by omega
  exact wh.aA h0 [7] (.sl (.loc 6) 0 1 A.length none) [(3, .deep false 1 (kL (qv A l))),(6, .rows 1 ((Yx A l c).map Zg))] ⟨_,hR _ (.stop hst),rfl,rfl,rfl⟩
 .have hst:kj (Yx A l c)≠kj c:=by omega
  have hge:=On A l c;have hle:=Om (Yx A l c);rw[X0,hc.cn]at hle;refine⟨Yx A l c,⟨hc.step,fun F hF=>hR F (.go hst hF)⟩,by omega,?_⟩;conv=>whnf
  exact w5.kA h0 [7]
end Go.Proofs.YtlcbipfmodcedaaGreatDoor

namespace Go.Proofs.YtlcbipfmodcedaaGreatDoor
open Go.Sx Go.Our Go.Lib
open _root_.Go.Proofs.Tryz
def eO(L:List Nat):List (List SV):=L.map Yf
def ou(c:Nat)(k:Int)(L:List Nat):DC:=if 0<=k/\k< (c:Int)then .v .any else .wZ 1 (eO L)
theorem ZmD(L:List Nat):Zp (eO L)=true:=Zk4 L
instance {m:List (Int×List Nat)}:GO (Xw KI 1 eO m):=⟨ZmA KI (h:=fun _ v=> .wZ 1 (eO v)) (fun k v=>ZmD v) m⟩
instance {c:Nat}{m:List (Int×List Nat)}:GO (Xn KI (ou c) m):=⟨ZmA KI (fun k v=>by unfold ou;split;rfl;exact ZmD v) m⟩
theorem Zko{a:Int}{es:Nat}{rows:List (List SV)}{L:List Nat}{m:List (Int×List Nat)}(qX:es=1)(hr:rows=eO L):gu (false,[CK.int .i64]) (fJ (SV.int .i64 a)) (.wZ es rows) (Xw KI 1 eO m)=Xw KI 1 eO (kO a L m):=by
 subst qX hr;exact Zlq KI 1 eO a L m
theorem Ih{a:Int}{j:Nat}{L:List Nat}{m:List (Int×List Nat)}(h:Int->List Nat->DC)(d:DC)(hn:(m.map Prod.fst).Nodup)(hx:fM a m=some (j,L)):findD (false,[CK.int .i64]) (SV.int .i64 a) 0 ((Xn KI h m).modify j (fO d))=some (j,d):=by
 rw[Oq KI h d hn hx];exact(D7 KI _ a m 0).trans (by rw[hx];simp)
theorem Zi3{a:Int}{j es:Nat}{rows:List (List SV)}{L L':List Nat}{m:List (Int×List Nat)}{d:DC}(hn:(m.map Prod.fst).Nodup)(hx:fM a m=some (j,L))(qX:es=1)(hr:rows=eO L'):gu (false,[CK.int .i64]) (fJ (SV.int .i64 a)) (.wZ es rows) ((Xw KI 1 eO m).modify j (fO d))=Xw KI 1 eO (kO a L' m):=by
 subst qX hr;have hf:=Ih (fun _ v=> .wZ 1 (eO v)) d hn hx;show gu (false,[CK.int .i64]) (SV.int .i64 a) _ _=_
 unfold gu;rw[I6,hf];exact ZjG KI 1 eO d hx rfl
theorem Ii{a:Int}{j:Nat}{L:List Nat}{m:List (Int×List Nat)}(h:Int->List Nat->DC)(d:DC)(hn:(m.map Prod.fst).Nodup)(hx:fM a m=some (j,L)):V3 (false,[CK.int .i64]) (ZB ((Xn KI h m).modify j (fO d))):=by
 rw[Oq KI h d hn hx];exact Oo KI _ _
theorem ZdM(m:List (Int×List Nat)):Xw KI 1 eO m=Xn KI (ou 0) m:=by
 rw[I6];congr 1;funext k v;unfold ou;rw[z7 (by omega)]
theorem ZdN(c:Nat)(m:List (Int×List Nat)):jw (Xn KI (ou c) m) (Xn KI (ou (c+1)) m):=by
 refine I7 KI fun k v=>?_;unfold ou;by_cases h:0<=k/\k< (c:Int)
 rw[zh (by omega)];exact .inr rfl
 .rw[z7 h];by_cases h2:0<=k/\k< ((c+1:Nat):Int)
  rw[zh h2];exact .inr rfl;rw[z7 h2];exact .inl rfl
theorem ZdO{c j:Nat}{L:List Nat}{m:List (Int×List Nat)}(d:DC)(hn:(m.map Prod.fst).Nodup)(hx:fM (c:Int) m=some (j,L)):jw ((Xn KI (ou c) m).modify j (fO d)) (Xn KI (ou (c+1)) m):=by
 rw[Oq KI _ d hn hx];refine I7 KI fun k v=>?_;unfold ou;by_cases h:k=(c:Int)
 .subst h;rw[zh (by omega)];exact .inr rfl
 .rw[z7 h];by_cases h2:0<=k/\k< (c:Int)
  rw[zh (by omega)];exact .inr rfl;rw[z7 h2,z7 (by omega)];exact .inl rfl
theorem Zi4(L:List Nat)(x:Nat):List.take ((eO L).length+1) (List.take (eO L).length (eO L)++List.take 1 (List.drop 0 [[SV.int .i64 (x:Int)]]))=eO (L++ [x]):=by
 rw[zX,zi (by simp)];simp[eO,Yf]
def Zkp(cl:List Int):SV->w9->Nat->Prop:=fun r O nx=>
 (Jb cl=none/\r= .val (.slice none 0 0)/\O=[]/\nx=1)\/
 (∃c,Jb cl=some c/\1< (qK cl (c:Int)).length/\r= .sl (.loc 1) 0 1 (qK cl (c:Int)).length none/\O=[(1, .rows 1 ((qK cl (c:Int)).map Yf))]/\nx=2)
theorem Zb3(cl:List Int)(hl:cl.length<=4096):uX prog wD 72 1 [.sl (.loc 0) 0 1 cl.length none] [] [(0, .rows 1 (cl.map Zg))] (Zkp cl):=by
 refine uX.enter Z0 call72 func72 rfl 38 rfl rfl [.tmp 2] rfl ?_;intro w0 F η0 h0;conv=>whnf
 skip
 refine qx.loop (qx.Fv 1 rfl) ?_;refine wj.jD Z0 [0,3,8,9] [] (X:=Nat) (fun i=>i<=cl.length) (fun i=>[(10, .int .i64 (i:Int))]) (fun i=>[(1, .deep true 2 (Xw KI 1 eO (nH cl i)))]) 2 (fun i=>cl.length-i) 0 (by omega) ?_;conv=>whnf
 refine⟨by exact w5.kA h0 [1],?_⟩;intro i hi;have jm:=Zm1 cl i;have hml:=Zkh cl i;have aZ:=ZhT cl i;have hmn:=Zgk cl i;have hall:i=cl.length->∀c,(jt c (nH cl i)).getD []=qK cl c:=fun e c=>by subst e;exact Zkg cl c
 generalize nH cl i=m at jm hml aZ hmn hall⊢;conv=>whnf
 by_cases hil:i<cl.length
 .have hgd:cl.getD i 0=cl[i]:=by rw[zl,z1 hil];rfl
  rw[hgd]at aZ;have gF:∀{k:Nat},k=i->(cl.map Zg)[k]?=some (Zg cl[i]):=fun e=>by subst e;rw[z6,z1 hil];rfl
  cases hx:fM cl[i] m with
  |none=>
   have Ow:findD (false,[CK.int .i64]) (SV.int .i64 cl[i]) 0 (Xw KI 1 eO m)=none:=(Kl KI 1 eO cl[i] m 0).trans (by rw[hx];rfl);repeat'(first|refine GET.at (gF (by omega)) ?_|refine wm.mk ⟨KI.ok _,Rz KI _ _ _⟩ ?_|refine kF.no Ow ?_|refine wm.mk ⟨rfl,by omega,zT rfl⟩ ?_|refine AU ?_|refine IW ?_ ?_<;>intro h<;>try omega)<;>conv=>whnf
   all_goals
    rw[Zko (L:=[i]) (by rfl) (by rfl)];refine⟨i+1,by omega,by omega,?_⟩;rw[aZ,UH hx,Option.getD_none,List.nil_append];conv=>whnf
    exact w5.kA h0 [1]
  |some p=>
   obtain⟨j,L⟩:=p
   have hL:(eO L).length<=4096:=by
    have:=jm cl[i];rw[Eh hx]at this;simp only[eO,zA,Option.getD_some]at*;omega
   have Oy:findD (false,[CK.int .i64]) (SV.int .i64 cl[i]) 0 (Xw KI 1 eO m)=some (j, .wZ 1 (eO L)):=(Kl KI 1 eO cl[i] m 0).trans (by rw[hx];simp);repeat'(first|refine GET.at (gF (by omega)) ?_|refine wm.mk ⟨KI.ok _,Rz KI _ _ _⟩ ?_|refine kF.at Oy ?_|refine wm.mk (Zm 8 rfl rfl rfl (zo _) (by omega)) ?_|refine wm.mk ⟨KI.ok _,Ii (fun _ v=> .wZ 1 (eO v)) _ hmn hx⟩ ?_|refine AU ?_|refine IW ?_ ?_<;>intro h<;>try omega)<;>conv=>whnf
   all_goals
    rw[Zi3 (L':=L++ [i]) hmn hx (by rfl) (Zi4 L _)];refine⟨i+1,by omega,by omega,?_⟩;rw[aZ,Eh hx,Option.getD_some];conv=>whnf
    exact w5.kA h0 [1]
 .have hie:i=cl.length:=by omega
  have FO:=hall hie;clear aZ jm hml hall;subst hie;repeat'(first|refine IW ?_ ?_<;>intro h<;>try omega)<;>conv=>whnf
  rw[ZdM];refine wj.jD Z0 [3,25] [] (X:=Nat) (fun c=>c<=cl.length/\∀d,d<c->¬1< (qK cl (d:Int)).length) (fun c=>[(26, .int .i64 (c:Int))]) (fun c=>[(1, .deep true 2 (Xn KI (ou c) m))]) 2 (fun c=>cl.length-c) 0 ⟨by omega,fun d hd=>by omega⟩ ?_;conv=>whnf
  refine⟨by exact w5.kA h0 [1],?_⟩;rintro c ⟨hc,hb⟩;have fh:=Ot cl (c:Int)
  have cQ:¬1< (qK cl (c:Int)).length->∀d,d<c+1->¬1< (qK cl (d:Int)).length:=fun h d hd=>by
   rcases y9 d c with h1|h1
   exact hb d h1
   .have:d=c:=by omega
    subst this;exact h
  conv=>whnf
  by_cases hcA:c<cl.length
  .have K8:=fun h=>ZhW hcA h hb;cases hx:fM (c:Int) m with
   |none=>
    have Ow:findD (false,[CK.int .i64]) (SV.int .i64 (c:Int)) 0 (Xn KI (ou c) m)=none:=(D7 KI (ou c) (c:Int) m 0).trans (by rw[hx];rfl);repeat'(first|refine wm.mk ⟨KI.ok _,Oo KI _ _⟩ ?_|refine kF.no Ow ?_|refine IW ?_ ?_<;>intro h<;>try omega)<;>conv=>whnf
    have he:qK cl (c:Int)=[]:=by rw[<-FO,UH hx];rfl
    refine⟨c+1,⟨by omega,cQ (by rw[he];simp)⟩,by omega,?_⟩;conv=>whnf
    refine(qx.goes (qx.ai 1 rfl (ZdN c m))).trans ?_;exact w5.kA h0 [1]
   |some p=>
    obtain⟨j,L⟩:=p;have Oy:findD (false,[CK.int .i64]) (SV.int .i64 (c:Int)) 0 (Xn KI (ou c) m)=some (j, .wZ 1 (eO L)):=(D7 KI (ou c) (c:Int) m 0).trans (by rw[hx];simp[ou]);have hfT:=fun d=>Ih (ou c) d hmn hx;have Da:qK cl (c:Int)=L:=by rw[<-FO,Eh hx];rfl
    rw[Da]at K8 cQ fh;have hlv:(eO L).length=L.length:=by simp[eO]
    repeat'(first|refine wm.mk ⟨KI.ok _,Oo KI _ _⟩ ?_|refine wm.mk ⟨KI.ok _,Ii (ou c) _ hmn hx⟩ ?_|refine kF.at Oy ?_|refine kF.at (hfT _) ?_|refine IW ?_ ?_<;>intro h<;>try omega)<;>conv=>whnf
    .have h1:1<L.length:=by omega
     rw[hlv,show eO L=L.map Yf from rfl];exact wh.aA h0 [2] (.sl (.loc 1) 0 1 L.length none) [(1, .rows 1 (L.map Yf))] (.inr ⟨c,K8 h1,by rw[Da];exact h1,by rw[Da],by rw[Da],rfl⟩)
    .refine⟨c+1,⟨by omega,cQ (by omega)⟩,by omega,?_⟩;conv=>whnf
     refine(qx.goes (qx.ai 1 rfl (ZdO _ hmn hx))).trans ?_;exact w5.kA h0 [1]
  .have hce:c=cl.length:=by omega
   subst hce;repeat'(first|refine IW ?_ ?_<;>intro h<;>try omega)<;>conv=>whnf
   exact wh.aA h0 [] (.val (.slice none 0 0)) [] (.inl ⟨ZhX hb,rfl,rfl,rfl⟩)
open _root_.Go.Proofs.Tryz
def Zi5:wP:=(Zr [(0,1),(1,1),(2,1),(3,1),(4,1),(5,1),(6,1),(7,1),(8,1),(9,1),(10,1),(11,1),(12,1),(13,0)])
def Zi6:wP:=(Zr [(0,1),(1,1),(2,1),(3,1),(4,1),(6,1),(7,1),(8,1),(5,2),(9,2),(10,3),(11,1),(12,2),(13,3),(14,1),(15,1),(16,1),(17,0)])
theorem Zb4(r:Nat):uX prog wD 62 1 [.ptr (.loc 0) r 16 0] [] []
 (fun v O nx=>v= .arr 1 [[.ptr (.loc 0) r 16 0],[.ptr (.loc 0) r 16 4],[.ptr (.loc 0) r 16 8],[.ptr (.loc 0) r 16 12]]/\O=[]/\nx=1):=by
 refine uX.enter Z0 call62 func62 rfl 16 rfl rfl [.cell 2 100] rfl ?_;intro w0 F η0 h0;conv=>whnf
 repeat'(first|(show wO _ _ _ _ _ _ _;first|refine Z3 1 Zi5 ?_)|refine AU ?_)<;>conv=>whnf
 exact wh.aA h0 [] (.arr 1 [[.ptr (.loc 0) r 16 0],[.ptr (.loc 0) r 16 4],[.ptr (.loc 0) r 16 8],[.ptr (.loc 0) r 16 12]]) [] ⟨rfl,rfl,rfl⟩
def lI(A:List LB)(cl:List Int)(q:Qd):Nat->Qd
 |0=>⟨q.s,q.p,q.o,q.g⟩
 |1=>⟨JK A cl q.s,q.p,q.o,q.g⟩
 |2=>⟨JK A cl q.s,JK A cl q.p,q.o,q.g⟩
 |3=>⟨JK A cl q.s,JK A cl q.p,JK A cl q.o,q.g⟩
 |_=>U4 A cl q
theorem Zkq{A:List LB}{cl:List Int}{t:Tm}(h:¬t.k=2):JK A cl t=t:=z7 h
theorem Zkr{A:List LB}{cl:List Int}{t:Tm}{n0:Nat}(h:t.k=2)(hn:n0=A.idxOf t.t){c:Int}(hc:cl.getD n0 0=c)(h0:0<=c):JK A cl t=⟨t.k,[99]++itoa c,t.y,t.l⟩:=by
 unfold JK b6;rw[zh h,<-hn,hc];have:itoa c=decDigits c.toNat:=by unfold itoa;rw[z7 (by omega)]
 rw[this];rfl
theorem Ij{W Z:List Qd}{q:Qd}{k:Nat}(h:k=W.length):((W++q::Z).map Z4)[k]?=some (Z4 q):=by
 subst h;rw[z6,zx (zo _)];simp
theorem Zi7{W Z:List Qd}{q q':Qd}{k:Nat}{row:List SV}(h:k=W.length)(hr:row=Z4 q'):((W++q::Z).map Z4).set k row=(W++q'::Z).map Z4:=by
 subst h hr;rw[<-xQ,xh _ _ (zo _)];simp
theorem ZdP(A:List LB)(l z:List Qd)(lim:Option Nat)(cl:List Int)(gm:cl.length=A.length)(bD:A.length<=4096)(hl:l.length<=1048576)(hnd:A.Nodup)(hmem:∀s∈ZE l,s∈A)(jm:∀c∈cl,0<=c/\c<10000)(hz:(l++z).length<=1152921504606846976):
 uX prog wD 36 6 [.ptr (.loc 0) 0 0 0, .sl (.loc 4) 0 1 A.length none] [] [(0,FI l.length lim A.length),(1, .rows 16 ((l++z).map Z4)),(2, .mp (kU (Xt 0 A A.length))),(4, .rows 1 (cl.map Zg))]
 (fun r O nx=>r= .sl (.loc 6) 0 16 l.length none/\O=[(6, .rows 16 ((ZC A l cl).map Z4))]/\nx=7):=by
 have sF:=Fy (b:=0) hnd;have tR:=ZaP l z lim (by omega);have Ik:=Tb (l.map (U4 A cl)) (by rw[zA];omega);rw[zA]at Ik;refine uX.enter Z0 call36 func36 rfl 53 rfl rfl [.tmp 4] rfl ?_;intro w0 F η0 h0;conv=>whnf
 skip
 refine CALL.aA [1] (tR) ?_;rintro r O nx ⟨rfl,rfl,rfl⟩;conv=>whnf
 skip
 refine wj.jD Z0 [0,1,5,15] [] (X:=Nat) (fun i=>i<=l.length) (fun i=>[(16, .int .i64 (i:Int))]) (fun i=>[(6, .rows 16 (((l.take i).map (U4 A cl)++l.drop i).map Z4))]) 7 (fun i=>l.length-i) 0 (by omega) ?_;conv=>whnf
 refine⟨by exact w5.kA h0 [6],?_⟩;intro i hi;conv=>whnf
 by_cases hil:i<l.length
 .obtain⟨q,hq⟩:∃q,q=l[i]:=⟨_,rfl⟩;have bE:∀s∈Zx q,s∈A:=fun s hs=>hmem s (xB.2 ⟨q,by rw[hq];exact zm hil,hs⟩);have hT:=Zb4 (0+(i:Int).toNat);obtain⟨W,hW⟩:∃W,W=(l.take i).map (U4 A cl):=⟨_,rfl⟩;have hWl:W.length=i:=by rw[hW,zA,zu];omega
  have hnext:∀Z,(l.take (i+1)).map (U4 A cl)++Z=W++U4 A cl q::Z:=fun Z=>by rw[zH hil,yj,<-hW,<-hq];simp
  rw[<-hW,zq hil,<-hq];obtain⟨Z,hZ⟩:∃Z,Z=l.drop (i+1):=⟨_,rfl⟩;rw[<-hZ];repeat'(first|refine AU ?_|refine IW ?_ ?_<;>intro h<;>try omega)<;>conv=>whnf
  refine CALL.aA [6] (hT) ?_;rintro r O nx ⟨rfl,rfl,rfl⟩;conv=>whnf
  skip
  refine wj.jD Z0 [0,1,5,15,16,22] [] (X:=Nat) (fun j=>j<=4) (fun j=>[(23, .int .i64 (j:Int))]) (fun j=>[(6, .rows 16 ((W++lI A cl q j::Z).map Z4))]) 7 (fun j=>4-j) 0 (by omega) ?_;conv=>whnf
  refine⟨by exact w5.kA h0 [6],?_⟩;intro j hj;conv=>whnf
  by_cases QA:j<4
  .have O9:j=0\/j=1\/j=2\/j=3:=by omega
   obtain⟨l1,l2,l3,l4⟩:=Qg bE;obtain⟨X,hX⟩:∃X,X=j:=⟨_,rfl⟩;rcases O9 with rfl|rfl|rfl|rfl
   all_goals rw[<-hX]at QA
   all_goals first
    |(obtain⟨t,ht,hsub⟩:∃t,t=q.s/\(t.k=2->t.t∈A):=⟨_,rfl,l1⟩;rw[show lI A cl q 0=⟨q.s,q.p,q.o,q.g⟩from rfl])
    |(obtain⟨t,ht,hsub⟩:∃t,t=q.p/\(t.k=2->t.t∈A):=⟨_,rfl,l2⟩;rw[show lI A cl q 1=⟨JK A cl q.s,q.p,q.o,q.g⟩from rfl])
    |(obtain⟨t,ht,hsub⟩:∃t,t=q.o/\(t.k=2->t.t∈A):=⟨_,rfl,l3⟩;rw[show lI A cl q 2=⟨JK A cl q.s,JK A cl q.p,q.o,q.g⟩from rfl])
    |(obtain⟨t,ht,hsub⟩:∃t,t=q.g/\(t.k=2->t.t∈A):=⟨_,rfl,l4⟩;rw[show lI A cl q 3=⟨JK A cl q.s,JK A cl q.p,JK A cl q.o,q.g⟩from rfl])
   all_goals
    repeat'(first|refine wm.mk ⟨by omega,by omega,rfl⟩ ?_|refine GET.at (row:=_) rfl ?_|refine GET.at (Ij (by omega)) ?_|(show wO _ _ _ _ _ _ _;first|refine Z3 9 Zi6 ?_)|refine qJ.mk (fun _ _=>?_)|refine AD ?_|refine IW ?_ ?_<;>intro h<;>try omega)<;>conv=>whnf
    rotate_left
    .refine⟨X+1,by omega,by omega,?_⟩;rw[show lI A cl q (X+1)=lI A cl q X by subst hX;simp only[lI,U4,Zkq (show ¬_=(2:Int)from ‹_›)],hX];conv=>whnf
     exact w5.cA h0
    have h2:t.k=2:=by rw[ht];assumption
    have oQ:=hsub h2;have kP:=yA oQ;have nG:A[A.idxOf t.t]=t.t:=x7 kP;have o7:nX 0 A t.t=((A.idxOf t.t:Nat):Int):=by unfold nX;rw[zh oQ];omega
    refine wm.mk ⟨KT.ok _,VL KT dw _⟩ ?_;rw[<-ht];refine bJ.A KT dw t.t (Xt 0 A A.length) (fun i v hf=>?_) (fun hf=>?_)
    rotate_left
    .have hg:=QC (b:=0) hnd A.length t.t (zo _);rw[UH hf,yg kP]at hg;cases hg
    have hv:=Fw hf;rw[sF,o7]at hv;subst hv;obtain⟨n0,hn0⟩:∃n0,n0=A.idxOf t.t:=⟨_,rfl⟩;rw[<-hn0]at kP⊢
    have gC:∀{m:Nat},m=n0->(cl.map Zg)[m]?=some (Zg (cl[n0]'(by omega))):=fun{m} e=>by
     rw[e,z6,z1 (by omega)];rfl
    have hcb:=jm _ (zm (show n0<cl.length by omega));have hto:=Zkr h2 hn0 (cl:=cl) (c:=cl[n0]'(by omega)) (by rw[zl,z1 (show n0<cl.length by omega)];rfl) hcb.1
    have hil:(itoa (cl[n0]'(by omega))).length<=4:=by
     have h4:=Wn 3 (cl[n0]'(by omega)).toNat (by omega);have h5:itoa (cl[n0]'(by omega))=decDigits (cl[n0]'(by omega)).toNat:=by unfold itoa;rw[z7 (by omega)]
     rw[h5];exact h4
    rw[ht]at hto;clear bE hf;conv=>whnf
    repeat'(first|refine wm.mk (show 1+(itoa (cl[n0]'(by omega))).length<=9223372036854775807 by omega) ?_|refine GET.at (gC (by omega)) ?_|refine CALL.value (AO (cl[n0]'(by omega)) ⟨by omega,by omega⟩) rfl rfl ?_|refine GET.at (Ij (by omega)) ?_|refine qJ.mk (fun _ _=>?_)|refine AU ?_)<;>conv=>whnf
    all_goals
     rw[Zi7 (q':=lI A cl q (X+1)) (by omega) (by subst hX;simp only[lI,U4,hto];subst ht;rfl)];refine⟨X+1,by omega,by omega,?_⟩;conv=>whnf
     exact w5.kA h0 [6]
  .have Qm:j=4:=by omega
   subst Qm;rw[show lI A cl q 4=U4 A cl q from rfl];repeat'(first|refine IW ?_ ?_<;>intro h<;>try omega)<;>conv=>whnf
   refine⟨i+1,by omega,by omega,?_⟩;rw[hnext,<-hZ];conv=>whnf
   exact w5.kA h0 [6]
 .have hie:i=l.length:=by omega
  subst hie;rw[zX,vI,zO];repeat'(first|refine IW ?_ ?_<;>intro h<;>try omega)<;>conv=>whnf
  refine CALL.aA [6] (Ik) ?_;rintro r O nx ⟨rfl,rfl,rfl⟩;conv=>whnf
  skip
  exact wh.aA h0 [6] (.sl (.loc 6) 0 16 l.length none) [(6, .rows 16 ((ZC A l cl).map Z4))] ⟨rfl,rfl,rfl⟩
open _root_.Go.Proofs.Tryz
def Zi8:wP:=(Zr [(0,2),(1,1),(2,2),(3,2),(4,1)])
def Zi9:wP:=(Zr [(2,1),(0,2),(1,2),(3,3),(4,3),(5,1)])
def Zia:wP:=(.take 2 1 (.take 1 2 (.fork 0 3 3 0 (Zr [(3,0),(4,0),(5,1)]) (Zr [(0,2),(4,0),(5,1)]))))
theorem Zb5(cl:List Int)(hl:cl.length<=1048576):uX prog wD 73 1 [.sl (.loc 0) 0 1 cl.length none] [] [(0, .rows 1 (cl.map Zg))]
 (fun r O nx=>r= .sl (.loc 1) 0 1 cl.length none/\O=[(1, .rows 1 (cl.map Zg))]/\nx=2):=by
 refine uX.enter Z0 call73 func73 rfl 8 rfl rfl [.tmp 2] rfl ?_;intro w0 F η0 h0;conv=>whnf
 repeat'(first|refine wm.mk (Zm 8 rfl rfl (by simp) (by simp) (by omega)) ?_|((with_reducible refine sU.mk (fun h=>?_) ?_)<;>try omega))<;>conv=>whnf
 .have:cl=[]:=zJ.1 h;subst this;refine wh.nil 1 ?_;exact wh.aA h0 [1] (.sl (.loc 1) 0 1 0 none) [(1, .rows 1 (([]:List Int).map Zg))] ⟨rfl,rfl,rfl⟩
 .rw[zy,show List.take 0 ([]:List (List SV))++List.take cl.length (List.drop 0 (cl.map Zg))=cl.map Zg by simp[zi]];exact wh.aA h0 [2] (.sl (.loc 1) 0 1 cl.length none) [(1, .rows 1 (cl.map Zg))] ⟨rfl,rfl,rfl⟩
def tT:Code->Option (List Nat×Code×Code)
 | .seq a b=>match tT a with|some x=>some x|none=>tT b
 | .cond _ a b=>match tT a with|some x=>some x|none=>tT b
 | .block _ b=>tT b
 | .loop b=>tT b
 | .scope b=>tT b
 | .rangeFunc _ ps cM body=>some (ps.toList,cM,body)
 |_=>none
noncomputable def QO:rI:=match f13.body with
 |some c=>match tT c with
  |some (ps,a,b)=>⟨f13.ntmps,ps,a,b⟩
  |none=>⟨0,[], .skip, .skip⟩
 |none=>⟨0,[], .skip, .skip⟩
abbrev fI:=Option (List Qd×List Int)
abbrev bC(b:fI)(k:Nat):SV:=match b with|none=> .val (.slice none 0 0)|some p=> .sl (.loc k) 0 16 p.1.length none
abbrev cC(b:fI)(k:Nat):SV:=match b with|none=> .val (.slice none 0 0)|some p=> .sl (.loc k) 0 1 p.2.length none
abbrev bR(b:fI):List (List SV):=match b with|none=>[]|some p=>p.1.map Z4
abbrev cR(b:fI):List (List SV):=match b with|none=>[]|some p=>p.2.map Zg
instance {b:fI}:Pl (bR b):=⟨by cases b with|none=>rfl|some p=>exact Zy _⟩
instance {b:fI}:Pl (cR b):=⟨by cases b with|none=>rfl|some p=>exact Vx _⟩
def OB:SV:= .fn (.func 71) [] [.ptr (.loc 6) 0 0 0, .ptr (.loc 7) 0 0 0, .ptr (.loc 8) 0 0 0, .ptr (.loc 9) 0 0 0, .ptr (.loc 10) 0 0 0]
def KG(B:Nat):Fr:=[(30, .fn (.func 70) [] [.ptr (.loc 6) 0 0 0, .ptr (.loc 7) 0 0 0, .ptr (.loc 10) 0 0 0]),(1, .int .i64 (B:Int)),(7, .ptr (.loc 11) 0 0 0),(9, .ptr (.loc 12) 0 0 0),(10, .ptr (.loc 14) 0 0 0),(11, .ptr (.loc 15) 0 0 0)]
noncomputable abbrev pQ (A:List LB)(l:List Qd)(B n:Nat)(b:fI)(p q:Nat):w9:=[(3, .deep false 1 (kL (qv A l))),(12, .box [.int .i64 (n:Int)]),(13, .lp .ready QO (KG B)),(14, .box [bC b p]),(15, .box [cC b q]),(p, .rows 16 (bR b)),(q, .rows 1 (cR b))]
abbrev wkS(A:List LB)(l z:List Qd)(lim:Option Nat)(B:Nat):w9:=[(0,FI l.length lim A.length),(1, .rows 16 ((l++z).map Z4)),(2, .mp (kU (Xt 0 A A.length))),(6, .box [.ptr (.loc 12) 0 0 0]),(7, .box [.int .i64 (B:Int)]),(8, .box [.yf (.loc 13)]),(9, .box [OB]),(10, .box [.ptr (.loc 0) 0 0 0]),(11, .box [.ptr (.loc 0) 0 0 0])]
def FR(A:List LB)(l:List Qd)(B:Nat)(s:Nat×List (List Int)):SV->w9->Nat->Prop:=fun r O nx=>
 (∀cl∈s.2,qT A cl)/\r= .bool (decide (s.1<=B))/\O=pQ A l B s.1 (JJ (ZC A l) s.2) 18 19/\nx=20
theorem qx.best{M:Mx}{A:List LB}{l:List Qd}{B:Nat}{x:SV}(b:fI){h4:Hp}:qx M [(4,h4),(3, .deep false 1 (kL (qv A l))),(12, .box [x]),(13, .lp .ready QO (KG B)),(14, .box [bC b 16]),(15, .box [cC b 17]),(16, .rows 16 (bR b)),(17, .rows 1 (cR b))] 18
 [(19, .rows 1 (cR b)),(18, .rows 16 (bR b)),(4,h4),(3, .deep false 1 (kL (qv A l))),(12, .box [x]),(13, .lp .ready QO (KG B)),(14, .box [bC b 18]),(15, .box [cC b 19])] 20:=by
 cases b with
 |none=>exact qx.trans (qx.lJ 16 rfl) (qx.lJ 17 rfl)
 |some p=>exact qx.trans (qx.fresh 16 14 rfl rfl (by decide)) (qx.fresh 17 15 rfl rfl (by decide))
structure tU(A:List LB)(cl:List Int):Prop where
 cn:cl.length=A.length
 cs:∀c∈cl,0<=c/\c< (cl.length:Int)
set_option maxHeartbeats 16000000 in
theorem Zgu(A:List LB)(l z:List Qd)(lim:Option Nat)(B:Nat)(hB:B<=65536)(bD:A.length<=4096)(hl:l.length<=1048576)(hnd:A.Nodup)(hmem:∀s∈ZE l,s∈A)(hz:(l++z).length<=1152921504606846976):
 ∀(k n:Nat) (Ls:List (List Int)) (cl:List Int),n<=B->B<n+k->tU A cl->(∀c∈Ls,qT A c)->(A.length=0->Ls=[])->
 uX prog wD 71 18 [.sl (.loc 4) 0 1 A.length none, .ptr (.loc 6) 0 0 0, .ptr (.loc 7) 0 0 0, .ptr (.loc 8) 0 0 0, .ptr (.loc 9) 0 0 0, .ptr (.loc 10) 0 0 0]
  ((4, .rows 1 (cl.map Zg))::pQ A l B n (JJ (ZC A l) Ls) 16 17) (wkS A l z lim B) (FR A l B (Vn A l B k cl (n,Ls))):=by
 intro k
 induction k with
 |zero=>intro n Ls cl h1 h2;omega
 |succ k ih=>
  intro n Ls cl hn hk hc tV hA0;have gm:=hc.cn;have Ip:=Zb3 cl (by omega);rw[gm]at Ip;obtain⟨b,hb⟩:∃b,b=JJ (ZC A l) Ls:=⟨_,rfl⟩;have hw:IntKind.i64.wrap ((n:Int)+1)=((n+1:Nat):Int):=by rw[Z5 (by omega) (by omega)];omega
  rw[<-hb];refine uX.enter Z0 call71 func71 rfl 62 rfl rfl [.tmp 7] rfl ?_;intro w0 F η0 h0;conv=>whnf
  skip
  refine qx.drawn (qx.best b) ?_;repeat'(first|(show wO _ _ _ _ _ _ _;first|refine Z3 2 Zi8 ?_|refine Z3 17 Zi9 ?_)|refine IW ?_ ?_<;>intro h<;>try omega)<;>conv=>whnf
  .have ho:B<n+1:=by omega
   rw[Wo ho,hw];have hf:∀b,b=JJ (ZC A l) Ls->FR A l B (n+1,Ls) (.bool false) (pQ A l B (n+1) b 18 19) 20:=fun b hb=>⟨tV,ze SV.bool (ye (by show ¬n+1<=B;omega)).symm,by rw[hb],rfl⟩
   replace hf:=hf b hb
   clear hb;cases b with
   |none=>exact wh.aA h0 [18,19] (.bool false) (pQ A l B (n+1) none 18 19) hf
   |some p=>exact wh.aA h0 [18,19] (.bool false) (pQ A l B (n+1) (some p) 18 19) hf
  have ho:¬B<n+1:=by omega
  rw[hw];refine CALL.aA [4] (Ip) ?_;rintro r O nx (⟨hs,rfl,rfl,rfl⟩|⟨c,hs,h1,rfl,rfl,rfl⟩)
  .rw[Wp ho hs];have hlf:qT A cl:=⟨gm,hc.cs,hs⟩;have OC:=ZdP A l z lim cl gm bD hl hnd hmem (fun c hc1=>by have:=hc.cs c hc1;omega) hz;have hf:∀b',b'=YQ (ZC A l) b cl->FR A l B (n+1,Ls++ [cl]) (.bool true) (pQ A l B (n+1) b' 18 19) 20:=fun b' hb'=>⟨fun c mq=>(zW.1 mq).elim (tV c) (fun h=>by rw[zL.1 h];exact hlf),ze SV.bool (yu (by show n+1<=B;omega)).symm,by rw[hb',hb,RI],rfl⟩;conv=>whnf
   repeat'(first|refine AU ?_)<;>conv=>whnf
   refine bf.of Z0 rfl rfl rfl ?_;intro η2 ro2 h2;conv=>whnf
   skip
   refine CALL.aA [0,1,2,3,4,5] (OC) ?_;rintro r O nx ⟨rfl,rfl,rfl⟩;have hfl:=Jt A l cl;have hx:pQ A l B (n+1) (some (ZC A l cl,cl)) 18 19=[(3, .deep false 1 (kL (qv A l))),(12, .box [.int .i64 ((n+1:Nat):Int)]),(13, .lp .ready QO (KG B)),(14, .box [.sl (.loc 18) 0 16 l.length none]),(15, .box [.sl (.loc 19) 0 1 A.length none]),(18, .rows 16 ((ZC A l cl).map Z4)),(19, .rows 1 (cl.map Zg))]:=by simp only[pQ,bC,cC,bR,cR,hfl,gm]
   cases b with
   |none=>
    replace hf:=hf _ rfl
    rw[show YQ (ZC A l) none cl=some (ZC A l cl,cl)from rfl,hx]at hf;conv=>whnf
    repeat'(first|refine AU ?_)<;>conv=>whnf
    exact wh.aA h0 [20,4] (.bool true) _ hf
   |some p=>
    have aT:Ls≠ []:=fun e=>by rw[e,En]at hb;cases hb
    have FT:A.length≠0:=fun e=>aT (hA0 e);obtain⟨c',bq,nW⟩:=Eo (ZC A l) aT;rw[<-hb]at nW;injection nW with nW;subst nW;have jm:=(tV _ bq).cn;have zaA:(ZC A l c',c').snd.length=A.length:=jm;have OD:=Jt A l c';have FU:=TK (ZC A l cl) (ZC A l c') none none (by omega) (by omega);rw[hfl]at FU;conv=>whnf
    repeat'(first|refine AU ?_|((with_reducible refine sU.mk (fun h=>?_) ?_)<;>try omega))<;>conv=>whnf
    refine CALL.aA [20,18] (FU) ?_;rintro r O nx ⟨rfl,rfl,rfl⟩;conv=>whnf
    repeat'(first|refine AU ?_|refine IW ?_ ?_<;>intro h<;>try omega)<;>conv=>whnf
    .replace hf:=hf _ rfl
     rw[show YQ (ZC A l) (some (ZC A l c',c')) cl=some (ZC A l cl,cl)by unfold YQ;exact zh (by omega),hx]at hf;exact wh.aA h0 [20,4] (.bool true) _ hf
    .replace hf:=hf _ rfl
     rw[show YQ (ZC A l) (some (ZC A l c',c')) cl=some (ZC A l c',c')by unfold YQ;exact z7 (by dsimp only;omega)]at hf;exact wh.aA h0 [18,19] (.bool true) _ hf
  .rw[Wq ho hs];have jm:=Ib hs;have FT:A.length≠0:=by omega
   have fh:=Ot cl (c:Int);have oL:∀t∈qK cl (c:Int),t<cl.length:=fun t ht=>(eN.1 ht).1;have hpv:∀t∈qK cl (c:Int),cl.getD t 0=(c:Int):=fun t ht=>(eN.1 ht).2;have oP:=ZdL cl (c:Int);have sI:=Zkk cl (c:Int)
   have hch:∀x,∀v∈XQ cl (c:Int) x,0<=v/\v<10000:=fun x v hv=>by
    unfold XQ at hv;obtain⟨y,hy,rfl⟩:=zY.1 hv;have o8:=yh.1 hy;have h9:=hc.cs (cl.getD y 0) (by rw[zl,z1 o8];exact zm o8);split<;>omega
   have tR:=Zb5 cl (by omega);rw[gm]at tR;obtain⟨xs,hxs⟩:∃xs,xs=qK cl (c:Int):=⟨_,rfl⟩;rw[<-hxs]at fh oL hpv oP sI h1⊢;conv=>whnf
   repeat'(first|((with_reducible refine sU.mk (fun h=>?_) ?_)<;>try omega))<;>conv=>whnf
   refine wj.jD Z0 [0,4,5,8,31,32] [] (X:=Nat×Nat×List (List Int)) (fun x=>x.1<=xs.length/\x.2.1<=B/\n+1<=x.2.1/\(∀c∈x.2.2,qT A c)/\W0 A l B k cl (c:Int) xs (n+1,Ls)=W0 A l B k cl (c:Int) (xs.drop x.1) x.2)
    (fun x=>[(33, .int .i64 (x.1:Int))]) (fun x=>[(19, .rows 1 (cR (JJ (ZC A l) x.2.2))),(18, .rows 16 (bR (JJ (ZC A l) x.2.2))),(4, .rows 1 (cl.map Zg)),(3, .deep false 1 (kL (qv A l))),(12, .box [.int .i64 (x.2.1:Int)]),(13, .lp .ready QO (KG B)),(14, .box [bC (JJ (ZC A l) x.2.2) 18]),(15, .box [cC (JJ (ZC A l) x.2.2) 19]),(20, .rows 1 (xs.map Yf))]) 21 (fun x=>xs.length-x.1) (0,n+1,Ls) ⟨by simp,by dsimp only;omega,by dsimp only;omega,tV,rfl⟩ ?_
   conv=>whnf
   refine⟨?_,?_⟩
   .dsimp only;rw[<-hb];clear hb;cases b with
    |none=>exact w5.kA h0 [18,19,20]
    |some p=>exact w5.kA h0 [18,19,20]
   rintro⟨i,n1,L1⟩ ⟨hi,mG,hn2,tW,dA⟩;dsimp only at hi mG hn2 tW dA⊢;rw[dA];clear dA hb;obtain⟨b1,nB⟩:∃b1,b1=JJ (ZC A l) L1:=⟨_,rfl⟩;rw[<-nB];conv=>whnf
   by_cases o7:i<xs.length
   .obtain⟨x,hx⟩:∃x,x=xs[i]:=⟨_,rfl⟩;have gX:∀{m:Nat},m=i->(xs.map Yf)[m]?=some (Yf x):=fun e=>by subst e;rw[z6,z1 o7,<-hx];rfl
    have dA:=Zfl (A:=A) (l:=l) (B:=B) (k:=k) (cl:=cl) (c:=(c:Int)) (s:=(n1,L1)) o7 (show ¬B<n1 by omega);rw[<-hx]at dA;obtain⟨bx,hbx⟩:∃bx:fI,bx=b1:=⟨_,rfl⟩;cases b1
    all_goals
     conv=>whnf
     repeat'(first|refine GET.at (gX (by omega)) ?_|refine AU ?_|refine IW ?_ ?_<;>intro h<;>try omega)<;>conv=>whnf
     refine CALL.aA [4] (tR) ?_;rintro r O nx ⟨rfl,rfl,rfl⟩;conv=>whnf
     skip
     refine wj.jD Z0 [0,4,5,8,10,11,31,32,33,39,40] [] (X:=Nat) (fun y=>y<=xs.length) (fun y=>[(41, .int .i64 (y:Int))]) (fun y=>[(19, .rows 1 (cR bx)),(18, .rows 16 (bR bx)),(4, .rows 1 (cl.map Zg)),(3, .deep false 1 (kL (qv A l))),(12, .box [.int .i64 (n1:Int)]),(13, .lp .ready QO (KG B)),(14, .box [bC bx 18]),(15, .box [cC bx 19]),(20, .rows 1 (xs.map Yf)),(21, .rows 1 ((er cl x (xs.take y)).map Zg))]) 22 (fun y=>xs.length-y) 0 (by omega) ?_;subst hbx;conv=>whnf
     refine⟨by rw[show xs.take 0=[]from rfl,ZhU];exact w5.kA h0 [18,19,20,21],?_⟩;intro y hy;conv=>whnf
     by_cases F0:y<xs.length
     .obtain⟨t,ht⟩:∃t,t=xs[y]:=⟨_,rfl⟩;have Ez:t∈xs:=by rw[ht];exact zm F0
      have aq:=oL t Ez;have Iq:=hpv t Ez;have gT:∀{m:Nat},m=y->(xs.map Yf)[m]?=some (Yf t):=fun e=>by subst e;rw[z6,z1 F0,<-ht];rfl
      have Ir:t∉xs.take y:=fun hm=>by
       obtain⟨m,Q0,he⟩:=xZ.1 hm;rw[vz]at he;rw[zu]at Q0;exact absurd ((xm oP).1 (he.trans ht)) (by omega)
      have hS:xs.take (y+1)=xs.take y++ [t]:=by rw[zH F0,<-ht]
      generalize xs.take y=T at Ir hS⊢;have gN:∀{m:Nat},m=t->((er cl x T).map Zg)[m]?=some (Zg (cl.getD t 0)):=fun e=>by subst e;rw[z6,Zkj Ir aq];rfl
      rw[Iq]at gN;repeat'(first|refine GET.at (gT (by omega)) ?_|refine GET.at (gN (by omega)) ?_|refine AU ?_|refine IW ?_ ?_<;>intro h<;>try omega)<;>conv=>whnf
      .have hst:=Zki (cl:=cl) (x:=x) (T:=T) (show t≠x by omega) aq;rw[Iq]at hst;refine⟨y+1,by omega,by omega,?_⟩;rw[Uk (x:=t) (by omega),show IntKind.i64.wrap ((c:Int)+1)=(c:Int)+1 from Z5 (by omega) (by omega),hst,<-hS];conv=>whnf
       exact w5.kA h0 [18,19,20,21]
      .have hte:t=x:=by omega
       subst hte;refine⟨y+1,by omega,by omega,?_⟩;rw[<-ZhV cl t T,<-hS];conv=>whnf
       exact w5.kA h0 [18,19,20,21]
     .have FE:y=xs.length:=by omega
      subst FE;rw[zX,sI x];have OE:=I5 A l z lim (XQ cl (c:Int) x) ⟨by rw[Ek,gm],bD,hl,hnd,hmem,fun v hv=>hch x v hv⟩ hz;repeat'(first|(show wO _ _ _ _ _ _ _;first|refine Z3 17 Zia ?_)|refine qJ.mk (fun _ _=>?_)|refine j9.mk ?_ ?_|refine IW ?_ ?_<;>intro h<;>try omega)<;>conv=>whnf
      all_goals
       refine CALL.aA [0,1,2,3,21,5] (OE) ?_;rintro r O nx ⟨F,hF,rfl,rfl,rfl⟩;obtain⟨oT,lN⟩:=hF.ok;rw[Ek]at oT lN;have hih:=ih n1 L1 F mG (by omega) ⟨by rw[oT,gm],fun v hv=>by rw[oT];exact lN v hv⟩ tW (fun e=>(FT e).elim);rw[<-nB]at hih;rw[El hF]at dA;obtain⟨s2,hs2⟩:∃s2,s2=Vn A l B k F (n1,L1):=⟨_,rfl⟩;have hge:=Em (A:=A) (l:=l) (B:=B) k F (n1,L1);rw[<-hs2]at hih dA hge;rw[dA];dsimp only at hge;conv=>whnf
       repeat'(first|refine AD ?_)<;>conv=>whnf
       refine CALL.aA [0,1,2,3,22,5,6,7,8,9,10,11,12,13,14,15,18,19] (hih) ?_;rintro r O nx ⟨tX,rfl,rfl,rfl⟩;obtain⟨b2,cQ⟩:∃b2,b2=JJ (ZC A l) s2.2:=⟨_,rfl⟩;rw[<-cQ];conv=>whnf
       repeat'(first|refine IW ?_ ?_<;>intro h<;>try omega)<;>conv=>whnf
       .have gp:B<s2.1:=by omega
        rw[Vo gp];have hf:FR A l B s2 (.bool false) (pQ A l B s2.1 b2 18 19) 20:=⟨tX,ze SV.bool (ye (by omega)).symm,by rw[cQ],rfl⟩;clear cQ;cases b2 with
        |none=>exact wh.aA h0 [23,24] (.bool false) (pQ A l B s2.1 none 18 19) hf
        |some p=>exact wh.aA h0 [23,24] (.bool false) (pQ A l B s2.1 (some p) 18 19) hf
       .refine⟨(i+1,s2),⟨by dsimp only;omega,by dsimp only;omega,by dsimp only;omega,tX,rfl⟩,by dsimp only;omega,?_⟩;dsimp only;rw[<-cQ];clear cQ;cases b2 with
        |none=>
         conv=>whnf
         exact w5.kA h0 [23,24,20]
        |some p=>
         conv=>whnf
         exact w5.kA h0 [23,24,20]
   .have hie:i=xs.length:=by omega
    subst hie;rw[vI];have hf:FR A l B (n1,L1) (.bool true) (pQ A l B n1 b1 18 19) 20:=⟨tW,ze SV.bool (yu mG).symm,by rw[nB],rfl⟩;clear nB;repeat'(first|refine IW ?_ ?_<;>intro h<;>try omega)<;>conv=>whnf
    cases b1 with
    |none=>exact wh.aA h0 [18,19] (.bool true) (pQ A l B n1 none 18 19) hf
    |some p=>exact wh.aA h0 [18,19] (.bool true) (pQ A l B n1 (some p) 18 19) hf
open _root_.Go.Proofs.Tryz
def Zid:wP:=(Zr [(0,1),(1,1),(2,1),(4,1),(5,1),(6,1),(3,2),(7,2),(8,3),(9,1)])
theorem Iv(a b:List Qd)(la lb:Option Nat)(ha:a.length<=1152921504606846976)(hb:b.length<=1152921504606846976):uX prog wD 79 2 [.sl (.loc 0) 0 16 a.length la, .sl (.loc 1) 0 16 b.length lb] [] [(0, .rows 16 (a.map Z4)),(1, .rows 16 (b.map Z4))] (qE 2 (.int .i64 (JI a b))):=by
 have gA:∀{i k:Nat} (h:i<a.length),k=i->(a.map Z4)[k]?=some (Z4 a[i]):=fun h e=>by subst e;rw[z6,z1 h];rfl
 have gB:∀{i k:Nat} (h:i<b.length),k=i->(b.map Z4)[k]?=some (Z4 b[i]):=fun h e=>by subst e;rw[z6,z1 h];rfl
 refine uX.enter Z0 call79 func79 rfl 36 rfl rfl [.tmp 4] rfl ?_;intro w0 F η0 h0;conv=>whnf
 refine wj.jD Z0 [0,1] [] (X:=Nat) (fun i=>i<=a.length/\i<=b.length/\JI a b=JI (a.drop i) (b.drop i)) (fun i=>[(5, .int .i64 (i:Int))]) (fun i=>[]) 2 (fun i=>a.length-i) 0 ⟨by omega,by omega,rfl⟩ ?_;conv=>whnf
 refine⟨by exact w5.cA h0,?_⟩;rintro i ⟨hi,hib,he⟩;conv=>whnf
 by_cases sI:i<a.length
 .by_cases lH:i<b.length
  .have hd:=Zav sI lH;repeat'(first|refine GET.at (gA sI (by omega)) ?_|refine GET.at (gB lH (by omega)) ?_|refine CALL.value (Xf a[i] b[i]) rfl rfl ?_|(show wO _ _ _ _ _ _ _;first|refine Z3 4 Zid ?_)|refine qJ.mk (fun _ _=>?_)|refine AU ?_|refine IW ?_ ?_<;>intro h<;>try omega)<;>conv=>whnf
   exact wh.wC h0 rfl (ze (SV.int _) (by rw[he,hd,z7 ‹_›]))
   .refine⟨i+1,⟨by omega,by omega,by rw[he,hd,zh ‹_›]⟩,by omega,?_⟩;conv=>whnf
    exact w5.cA h0
  .have hend:=RG (a:=a) (b:=b) (i:=i) (.inr (by omega)) hi hib;repeat'(first|refine IW ?_ ?_<;>intro h<;>try omega)<;>conv=>whnf
   exact wh.wC h0 rfl (ze (SV.int _) (by rw[he,hend,Z5 (by omega) (by omega)]))
 .have hend:=RG (a:=a) (b:=b) (i:=i) (.inl (by omega)) hi hib;repeat'(first|refine IW ?_ ?_<;>intro h<;>try omega)<;>conv=>whnf
  exact wh.wC h0 rfl (ze (SV.int _) (by rw[he,hend,Z5 (by omega) (by omega)]))
theorem JW(xa xb ca cb:Int)(va vb:Value)(sa sb:List Qd)(K8:sa.length<=1152921504606846976)(rR:sb.length<=1152921504606846976)(hca:0<=ca/\ca<1048576)(hcb:0<=cb/\cb<1048576):
 cz (fun w=>(∃en,qj w va 16 (sa.map Z4) en)/\∃en,qj w vb 16 (sb.map Z4) en) prog wD 68 0 [.agg [.int .i64 xa, .int .i64 ca, .val va], .agg [.int .i64 xb, .int .i64 cb, .val vb]] [] [] (qd (.int .i64 (VN ca cb sa sb))):=by
 refine uX.eX Z0 call68 func68 rfl 20 rfl rfl [.tmp 4] rfl ?_;intro w0 F η0 h0 hG hF;conv=>whnf
 have hno:∀k, ¬F k:=fun k h=>by rw[hF]at h;simp[Yt,wu]at h
 obtain⟨⟨ea,hU⟩,⟨eb,hV⟩⟩:=hG;have hls:=Iv sa sb none none K8 rR;rw[show sa.length=(sa.map Z4).length from(zA ..).symm,show sb.length=(sb.map Z4).length from(zA ..).symm]at hls;repeat'(first|refine IW ?_ ?_<;>intro h<;>try omega)<;>conv=>whnf
 .refine wh.value h0 rfl (ze (SV.int _) ?_);unfold VN;rw[z7 ‹_›,Z5 (by omega) (by omega)]
 .refine CALL.tS hU hV hno rfl rfl hls (Zy _) (Zy _) rfl ?_;conv=>whnf
  refine wh.value h0 rfl (ze (SV.int _) ?_);unfold VN;rw[zh ‹_›]
open _root_.Go.Proofs.Tryz
def Zie:wP:=(Zr [(0,1),(1,1),(2,1),(4,1),(3,2),(5,2),(6,3),(7,1)])
def FV(n:Nat)(lim:Option Nat)(nl:Nat)(ll la:Option Nat):Hp:= .box [.sl (.loc 1) 0 16 n lim, .sl (.loc 5) 0 1 nl ll, .mp (.loc 2), .sl (.loc 3) 0 1 nl la]
theorem OG(A:List LB)(n:Nat)(lim ll la:Option Nat)(cl:List Int)(x:Nat)(t:Tm)(gm:cl.length=A.length)(bD:A.length<=4096)(hnd:A.Nodup)(ht:t.k=2->t.t∈A)(jm:∀c∈cl,0<=c/\c<10000)(hx:x<A.length):
 uX prog wD 111 6 [.ptr (.loc 0) 0 0 0, .agg (ZD t), .int .i64 (x:Int), .sl (.loc 4) 0 1 A.length none] [] [(0,FV n lim A.length ll la),(2, .mp (kU (Xt 0 A A.length))),(4, .rows 1 (cl.map Zg))]
 (qE 6 (.agg (ZD (Xr A cl x t)))):=by
 have sF:=Fy (b:=0) hnd;refine uX.enter Z0 call111 func111 rfl 32 rfl rfl [.cell 8 65] rfl ?_;intro w0 F η0 h0;conv=>whnf
 repeat'(first|(show wO _ _ _ _ _ _ _;first|refine Z3 3 Zie ?_)|refine qJ.mk (fun _ _=>?_)|refine AD ?_|refine IW ?_ ?_<;>intro h<;>try omega)<;>conv=>whnf
 .rw[O7 ‹_›];exact wh.aA h0 [] (.agg (ZD t)) [] ⟨rfl,rfl,rfl⟩
 .have h2:t.k=2:= ‹_›;have oQ:t.t∈A:=ht h2;have kP:=yA oQ;have nG:A[A.idxOf t.t]=t.t:=x7 kP;have o7:nX 0 A t.t=((A.idxOf t.t:Nat):Int):=by unfold nX;rw[zh oQ];omega
  refine wm.mk ⟨KT.ok _,VL KT dw _⟩ ?_;refine bJ.A KT dw t.t (Xt 0 A A.length) (fun i v hf=>?_) (fun hf=>?_)
  rotate_left
  .have hg:=QC (b:=0) hnd A.length t.t (zo _);rw[UH hf,yg kP]at hg;cases hg
  have hv:=Fw hf;rw[sF,o7]at hv;subst hv;obtain⟨n0,hn0⟩:∃n0,n0=A.idxOf t.t:=⟨_,rfl⟩;rw[<-hn0]at kP⊢
  have gC:∀{m:Nat},m=n0->(cl.map Zg)[m]?=some (Zg ((cl[n0]'(by omega)).toNat:Int)):=fun{m} e=>by
   rw[e,z6,z1 (by omega)];have:=(jm _ (zm (show n0<cl.length by omega))).1;rw[vQ this];rfl
  have hcb:=jm _ (zm (show n0<cl.length by omega));have QK:=Is 4 (cl[n0]'(by omega)).toNat (by omega) (by omega);rw[Zic]at QK;clear hf;conv=>whnf
  repeat'(first|refine GET.at (gC (by omega)) ?_|refine CALL.value (QK) rfl rfl ?_|refine AU ?_|refine IW ?_ ?_<;>intro h<;>try omega)<;>conv=>whnf
  .rw[TM h2 (show A.idxOf t.t=x by omega)];exact wh.aA h0 [] (.agg (ZD ⟨t.k,[120],t.y,t.l⟩)) [] ⟨rfl,rfl,rfl⟩
  .have hne:¬A.idxOf t.t=x:=by omega
   rw[TN h2 hne,<-hn0,zl,z1 (show n0<cl.length by omega)];exact wh.aA h0 [] (.agg (ZD ⟨t.k,ny (cl[n0]'(by omega)).toNat,t.y,t.l⟩)) [] ⟨rfl,rfl,rfl⟩
open _root_.Go.Proofs.Tryz
def Jv:wP:=(Zr [(0,1),(1,1),(2,1),(3,1),(4,1),(6,1),(7,1),(8,1),(9,1),(10,1),(5,3),(11,3),(12,1),(13,1)])
def Jw:wP:=(Zr [(0,1),(1,1),(2,1),(3,1),(4,1),(5,1),(6,1),(7,1),(8,1),(9,1),(11,1),(12,1),(10,2),(13,2),(14,3),(15,1),(16,1),(17,1)])
abbrev dy(l:List Qd):List Qd:=l.mergeSort (kK ZM)
def Zkw(i n:Nat)(l:List Qd):SV->w9->Nat->Prop:=fun r O nx=>
 (n<2/\r= .sl (.loc 0) i 16 n none/\O=[]/\nx=1)\/(2<=n/\r= .sl (.loc 1) 0 16 n none/\O=[(1, .rows 16 (l.map Z4))]/\nx=2)
theorem OJ{l:List Qd}(h:l.length<2):dy l=l:=by
 match l,h with
 | [],_=>simp[dy]
 | [x],_=>simp[dy]
theorem Z9N(L:List Qd)(hL:L.length<=1048576):∀(k n i:Nat) (hk:n<=k) (hi:i+n<=L.length),uX prog wD 112 1 [.sl (.loc 0) i 16 n none] [] [(0, .rows 16 (L.map Z4))] (Zkw i n (dy ((L.drop i).take n))):=by
 intro k
 induction k with
 |zero=>
  intro n i hk hi;refine uX.enter Z0 call112 func112 rfl 65 rfl rfl [.tmp 2] rfl ?_;intro w0 F η0 h0;conv=>whnf
  repeat'(first|refine IW ?_ ?_<;>intro h<;>try omega)<;>conv=>whnf
  exact wh.aA h0 [] (.sl (.loc 0) i 16 n none) [] (.inl ⟨by omega,rfl,rfl,rfl⟩)
 |succ k ih=>
  intro n i hk hi;by_cases hn2:n<2
  .refine uX.enter Z0 call112 func112 rfl 65 rfl rfl [.tmp 2] rfl ?_;intro w0 F η0 h0;conv=>whnf
   repeat'(first|refine IW ?_ ?_<;>intro h<;>try omega)<;>conv=>whnf
   exact wh.aA h0 [] (.sl (.loc 0) i 16 n none) [] (.inl ⟨by omega,rfl,rfl,rfl⟩)
  have h1:=ih (n/2) i (by omega) (by omega);have h2:=ih (n-n/2) (i+n/2) (by omega) (by omega);have hd:(n:Int).tdiv 2=((n/2:Nat):Int):=by rw[yZ (by omega)];omega
  have OL:IntKind.i64.wrap ((n:Int).tdiv 2)=((n/2:Nat):Int):=by rw[hd,Z5 (by omega) (by omega)]
  obtain⟨l,hl⟩:∃l,l=(L.drop i).take n:=⟨_,rfl⟩;have bh:l.length=n:=by rw[hl];simp;omega
  have e1:l.take (n/2)=(L.drop i).take (n/2):=by rw[hl,v7,yQ (by omega)]
  have e2:l.drop (n/2)=(L.drop (i+n/2)).take (n-n/2):=by rw[hl,uy,yt]
  have KK:gq ZM (dy (l.take (n/2))) (dy (l.drop (n/2)))=dy l:=Zkv jP l (n/2);rw[e1,e2]at KK;rw[<-hl];obtain⟨T,sH⟩:∃T,T=dy l:=⟨_,rfl⟩;rw[<-sH]at KK⊢;have OM:T.length=n:=by rw[sH,yw,bh]
  have sM:(dy ((L.drop i).take (n/2))).length=n/2:=by rw[yw,zu,zF];omega
  have sN:(dy ((L.drop (i+n/2)).take (n-n/2))).length=n-n/2:=by rw[yw,zu,zF];omega
  have sA:=fun h=>OJ (l:=(L.drop i).take (n/2)) h;have sB:=fun h=>OJ (l:=(L.drop (i+n/2)).take (n-n/2)) h;have gN:∀{S:List Qd} {p m:Nat} (h:p<S.length),m=0+p->(S.map Z4)[m]?=some (Z4 S[p]):=fun h e=>by subst e;rw[z6,z1 (by omega)];simp
  have gO:∀{o k p m:Nat} (h:p< ((L.drop o).take k).length),m=o+p->(L.map Z4)[m]?=some (Z4 ((L.drop o).take k)[p]):=fun{o k p m} h e=>by
   subst e;have h1:=h;rw[zu,zF]at h1;rw[z6,z1 (by omega),vz,List.getElem_drop];rfl
  generalize tY:dy ((L.drop i).take (n/2))=SA at h1 KK sM sA;generalize QS:dy ((L.drop (i+n/2)).take (n-n/2))=SB at h2 KK sN sB;have hT:([]:List Qd)++gq ZM (SA.drop 0) (SB.drop 0)=T:=KK;clear sH KK hl e1 e2;refine uX.enter Z0 call112 func112 rfl 65 rfl rfl [.tmp 2] rfl ?_;intro w0 F η0 h0;conv=>whnf
  repeat'(first|(show wO _ _ _ _ _ _ _;first|refine Z3 3 Jv ?_|refine Z3 6 Jw ?_)|refine qJ.mk (fun _ _=>?_)|refine AD ?_|rw[OL]|rw[Int.toNat_natCast]|refine AU ?_|refine IW ?_ ?_<;>intro h<;>try omega)<;>conv=>whnf
  refine CALL.aA [0] (h1) ?_;rintro r O nx (⟨g1,rfl,rfl,rfl⟩|⟨g1,rfl,rfl,rfl⟩)
  .conv=>whnf
   repeat'(first|refine qJ.mk (fun _ _=>?_))<;>conv=>whnf
   refine CALL.aA [0] (h2) ?_;rintro r O nx (⟨g2,rfl,rfl,rfl⟩|⟨g2,rfl,rfl,rfl⟩)
   .conv=>whnf
    skip
    have eA:=sA (by rw[zu];omega);have eB:=sB (by rw[zu];omega);have gA:∀{p m:Nat} (h:p<SA.length),m=i+p->(L.map Z4)[m]?=some (Z4 SA[p]):=by subst eA;exact fun h e=>gO h e
    have gB:∀{p m:Nat} (h:p<SB.length),m=i+n/2+p->(L.map Z4)[m]?=some (Z4 SB[p]):=by subst eB;exact fun h e=>gO h e
    refine wj.nil 5 16 rfl ?_
    refine wj.jD Z0 [] [] (X:=List Qd×Nat×Nat) (fun x=>x.2.1<=n/2/\x.2.2<=n-n/2/\x.1.length=x.2.1+x.2.2/\x.1++gq ZM (SA.drop x.2.1) (SB.drop x.2.2)=T)
     (fun x=>[(3, .sl (.loc 0) (i+x.2.1) 16 (n/2-x.2.1) none),(4, .sl (.loc 0) (i+n/2+x.2.2) 16 (n-n/2-x.2.2) none),(5, .sl (.loc 1) 0 16 x.1.length none)]) (fun x=>[(1, .rows 16 (x.1.map Z4))]) 2 (fun x=>(n/2-x.2.1)+(n-n/2-x.2.2)) ([],0,0) ⟨by simp,by simp,by simp,hT⟩ ?_
    conv=>whnf
    refine⟨by exact w5.kA h0 [1],?_⟩;rintro⟨out,p,q⟩ ⟨hp,hq,ho,hr⟩;dsimp only at hp hq ho hr⊢;have gp:out.length<=2097152:=by omega
    conv=>whnf
    by_cases oP:p<n/2
    .have gA:=fun{m:Nat}=>gA (p:=p) (m:=m) (by omega);by_cases lP:q<n-n/2
     .have gB:=fun{m:Nat}=>gB (p:=q) (m:=m) (by omega);repeat'(first|(show wO _ _ _ _ _ _ _;first|refine Z3 3 Jv ?_|refine Z3 6 Jw ?_)|refine qJ.mk (fun _ _=>?_)|refine CALL.value (Xf _ _) rfl rfl ?_|refine wm.mk (Zm 224 rfl rfl rfl (by simp) (by omega)) ?_|refine GET.at (gA (by omega)) ?_|refine GET.at (gB (by omega)) ?_|refine wm.mk ⟨by omega,by omega⟩ ?_|refine AU ?_|refine IW ?_ ?_<;>intro h<;>try omega)<;>conv=>whnf
      .refine⟨(out++ [SA[p]'(by omega)],p+1,q),⟨by dsimp only;omega,by dsimp only;omega,by dsimp only;rw[zg,List.length_singleton];omega,Xz (p:=p) (q:=q) (by omega) (.inr ⟨by omega,by assumption⟩) hr⟩,by dsimp only;omega,?_⟩;dsimp only;conv=>whnf
       exact w5.kA h0 [3]
      .refine⟨(out++ [SB[q]'(by omega)],p,q+1),⟨by dsimp only;omega,by dsimp only;omega,by dsimp only;rw[zg,List.length_singleton];omega,XA (p:=p) (q:=q) (by omega) (.inr ⟨by omega,by omega⟩) hr⟩,by dsimp only;omega,?_⟩;dsimp only;conv=>whnf
       exact w5.kA h0 [3]
     .repeat'(first|(show wO _ _ _ _ _ _ _;first|refine Z3 3 Jv ?_|refine Z3 6 Jw ?_)|refine wm.mk (Zm 224 rfl rfl rfl (by simp) (by omega)) ?_|refine GET.at (gA (by omega)) ?_|refine wm.mk ⟨by omega,by omega⟩ ?_|refine AU ?_|refine IW ?_ ?_<;>intro h<;>try omega)<;>conv=>whnf
      refine⟨(out++ [SA[p]'(by omega)],p+1,q),⟨by dsimp only;omega,by dsimp only;omega,by dsimp only;rw[zg,List.length_singleton];omega,Xz (p:=p) (q:=q) (by omega) (.inl (by omega)) hr⟩,by dsimp only;omega,?_⟩;dsimp only;conv=>whnf
      exact w5.kA h0 [3]
    .by_cases lP:q<n-n/2
     .have gB:=fun{m:Nat}=>gB (p:=q) (m:=m) (by omega);repeat'(first|(show wO _ _ _ _ _ _ _;first|refine Z3 3 Jv ?_|refine Z3 6 Jw ?_)|refine wm.mk (Zm 224 rfl rfl rfl (by simp) (by omega)) ?_|refine GET.at (gB (by omega)) ?_|refine wm.mk ⟨by omega,by omega⟩ ?_|refine AU ?_|refine IW ?_ ?_<;>intro h<;>try omega)<;>conv=>whnf
      refine⟨(out++ [SB[q]'(by omega)],p,q+1),⟨by dsimp only;omega,by dsimp only;omega,by dsimp only;rw[zg,List.length_singleton];omega,XA (p:=p) (q:=q) (by omega) (.inl (by omega)) hr⟩,by dsimp only;omega,?_⟩;dsimp only;conv=>whnf
      exact w5.kA h0 [3]
     .have gl:=KJ (by omega) (by omega) hr;have od:out.length=n:=by omega
      repeat'(first|refine IW ?_ ?_<;>intro h<;>try omega)<;>conv=>whnf
      rw[od,gl];exact wh.aA h0 [1] (.sl (.loc 1) 0 16 n none) [(1, .rows 16 (T.map Z4))] (.inr ⟨by omega,rfl,rfl,rfl⟩)
   .conv=>whnf
    skip
    have eA:=sA (by rw[zu];omega);have gA:∀{p m:Nat} (h:p<SA.length),m=i+p->(L.map Z4)[m]?=some (Z4 SA[p]):=by subst eA;exact fun h e=>gO h e
    have gB:∀{p m:Nat} (h:p<SB.length),m=0+p->(SB.map Z4)[m]?=some (Z4 SB[p]):=fun h e=>gN h e;refine wj.nil 5 16 rfl ?_
    refine wj.jD Z0 [] [] (X:=List Qd×Nat×Nat) (fun x=>x.2.1<=n/2/\x.2.2<=n-n/2/\x.1.length=x.2.1+x.2.2/\x.1++gq ZM (SA.drop x.2.1) (SB.drop x.2.2)=T)
     (fun x=>[(3, .sl (.loc 0) (i+x.2.1) 16 (n/2-x.2.1) none),(4, .sl (.loc 1) (0+x.2.2) 16 (n-n/2-x.2.2) none),(5, .sl (.loc 2) 0 16 x.1.length none)]) (fun x=>[(1, .rows 16 (SB.map Z4)),(2, .rows 16 (x.1.map Z4))]) 3 (fun x=>(n/2-x.2.1)+(n-n/2-x.2.2)) ([],0,0) ⟨by simp,by simp,by simp,hT⟩ ?_
    conv=>whnf
    refine⟨by exact w5.kA h0 [1,2],?_⟩;rintro⟨out,p,q⟩ ⟨hp,hq,ho,hr⟩;dsimp only at hp hq ho hr⊢;have gp:out.length<=2097152:=by omega
    conv=>whnf
    by_cases oP:p<n/2
    .have gA:=fun{m:Nat}=>gA (p:=p) (m:=m) (by omega);by_cases lP:q<n-n/2
     .have gB:=fun{m:Nat}=>gB (p:=q) (m:=m) (by omega);repeat'(first|(show wO _ _ _ _ _ _ _;first|refine Z3 3 Jv ?_|refine Z3 6 Jw ?_)|refine qJ.mk (fun _ _=>?_)|refine CALL.value (Xf _ _) rfl rfl ?_|refine wm.mk (Zm 224 rfl rfl rfl (by simp) (by omega)) ?_|refine GET.at (gA (by omega)) ?_|refine GET.at (gB (by omega)) ?_|refine wm.mk ⟨by omega,by omega⟩ ?_|refine AU ?_|refine IW ?_ ?_<;>intro h<;>try omega)<;>conv=>whnf
      .refine⟨(out++ [SA[p]'(by omega)],p+1,q),⟨by dsimp only;omega,by dsimp only;omega,by dsimp only;rw[zg,List.length_singleton];omega,Xz (p:=p) (q:=q) (by omega) (.inr ⟨by omega,by assumption⟩) hr⟩,by dsimp only;omega,?_⟩;dsimp only;conv=>whnf
       exact w5.kA h0 [1,4]
      .refine⟨(out++ [SB[q]'(by omega)],p,q+1),⟨by dsimp only;omega,by dsimp only;omega,by dsimp only;rw[zg,List.length_singleton];omega,XA (p:=p) (q:=q) (by omega) (.inr ⟨by omega,by omega⟩) hr⟩,by dsimp only;omega,?_⟩;dsimp only;conv=>whnf
       exact w5.kA h0 [1,4]
     .repeat'(first|(show wO _ _ _ _ _ _ _;first|refine Z3 3 Jv ?_|refine Z3 6 Jw ?_)|refine wm.mk (Zm 224 rfl rfl rfl (by simp) (by omega)) ?_|refine GET.at (gA (by omega)) ?_|refine wm.mk ⟨by omega,by omega⟩ ?_|refine AU ?_|refine IW ?_ ?_<;>intro h<;>try omega)<;>conv=>whnf
      refine⟨(out++ [SA[p]'(by omega)],p+1,q),⟨by dsimp only;omega,by dsimp only;omega,by dsimp only;rw[zg,List.length_singleton];omega,Xz (p:=p) (q:=q) (by omega) (.inl (by omega)) hr⟩,by dsimp only;omega,?_⟩;dsimp only;conv=>whnf
      exact w5.kA h0 [1,4]
    .by_cases lP:q<n-n/2
     .have gB:=fun{m:Nat}=>gB (p:=q) (m:=m) (by omega);repeat'(first|(show wO _ _ _ _ _ _ _;first|refine Z3 3 Jv ?_|refine Z3 6 Jw ?_)|refine wm.mk (Zm 224 rfl rfl rfl (by simp) (by omega)) ?_|refine GET.at (gB (by omega)) ?_|refine wm.mk ⟨by omega,by omega⟩ ?_|refine AU ?_|refine IW ?_ ?_<;>intro h<;>try omega)<;>conv=>whnf
      refine⟨(out++ [SB[q]'(by omega)],p,q+1),⟨by dsimp only;omega,by dsimp only;omega,by dsimp only;rw[zg,List.length_singleton];omega,XA (p:=p) (q:=q) (by omega) (.inl (by omega)) hr⟩,by dsimp only;omega,?_⟩;dsimp only;conv=>whnf
      exact w5.kA h0 [1,4]
     .have gl:=KJ (by omega) (by omega) hr;have od:out.length=n:=by omega
      repeat'(first|refine IW ?_ ?_<;>intro h<;>try omega)<;>conv=>whnf
      rw[od,gl];exact wh.aA h0 [2] (.sl (.loc 1) 0 16 n none) [(1, .rows 16 (T.map Z4))] (.inr ⟨by omega,rfl,rfl,rfl⟩)
  .conv=>whnf
   repeat'(first|refine qJ.mk (fun _ _=>?_))<;>conv=>whnf
   refine CALL.aA [0] (h2) ?_;rintro r O nx (⟨g2,rfl,rfl,rfl⟩|⟨g2,rfl,rfl,rfl⟩);exfalso;omega
   .conv=>whnf
    skip
    have gA:∀{p m:Nat} (h:p<SA.length),m=0+p->(SA.map Z4)[m]?=some (Z4 SA[p]):=fun h e=>gN h e;have gB:∀{p m:Nat} (h:p<SB.length),m=0+p->(SB.map Z4)[m]?=some (Z4 SB[p]):=fun h e=>gN h e;refine wj.nil 5 16 rfl ?_
    refine wj.jD Z0 [] [] (X:=List Qd×Nat×Nat) (fun x=>x.2.1<=n/2/\x.2.2<=n-n/2/\x.1.length=x.2.1+x.2.2/\x.1++gq ZM (SA.drop x.2.1) (SB.drop x.2.2)=T)
     (fun x=>[(3, .sl (.loc 1) (0+x.2.1) 16 (n/2-x.2.1) none),(4, .sl (.loc 2) (0+x.2.2) 16 (n-n/2-x.2.2) none),(5, .sl (.loc 3) 0 16 x.1.length none)]) (fun x=>[(1, .rows 16 (SA.map Z4)),(2, .rows 16 (SB.map Z4)),(3, .rows 16 (x.1.map Z4))]) 4 (fun x=>(n/2-x.2.1)+(n-n/2-x.2.2)) ([],0,0) ⟨by simp,by simp,by simp,hT⟩ ?_
    conv=>whnf
    refine⟨by exact w5.kA h0 [1,2,3],?_⟩;rintro⟨out,p,q⟩ ⟨hp,hq,ho,hr⟩;dsimp only at hp hq ho hr⊢;have gp:out.length<=2097152:=by omega
    conv=>whnf
    by_cases oP:p<n/2
    .have gA:=fun{m:Nat}=>gA (p:=p) (m:=m) (by omega);by_cases lP:q<n-n/2
     .have gB:=fun{m:Nat}=>gB (p:=q) (m:=m) (by omega);repeat'(first|(show wO _ _ _ _ _ _ _;first|refine Z3 3 Jv ?_|refine Z3 6 Jw ?_)|refine qJ.mk (fun _ _=>?_)|refine CALL.value (Xf _ _) rfl rfl ?_|refine wm.mk (Zm 224 rfl rfl rfl (by simp) (by omega)) ?_|refine GET.at (gA (by omega)) ?_|refine GET.at (gB (by omega)) ?_|refine wm.mk ⟨by omega,by omega⟩ ?_|refine AU ?_|refine IW ?_ ?_<;>intro h<;>try omega)<;>conv=>whnf
      .refine⟨(out++ [SA[p]'(by omega)],p+1,q),⟨by dsimp only;omega,by dsimp only;omega,by dsimp only;rw[zg,List.length_singleton];omega,Xz (p:=p) (q:=q) (by omega) (.inr ⟨by omega,by assumption⟩) hr⟩,by dsimp only;omega,?_⟩;dsimp only;conv=>whnf
       exact w5.kA h0 [1,2,5]
      .refine⟨(out++ [SB[q]'(by omega)],p,q+1),⟨by dsimp only;omega,by dsimp only;omega,by dsimp only;rw[zg,List.length_singleton];omega,XA (p:=p) (q:=q) (by omega) (.inr ⟨by omega,by omega⟩) hr⟩,by dsimp only;omega,?_⟩;dsimp only;conv=>whnf
       exact w5.kA h0 [1,2,5]
     .repeat'(first|(show wO _ _ _ _ _ _ _;first|refine Z3 3 Jv ?_|refine Z3 6 Jw ?_)|refine wm.mk (Zm 224 rfl rfl rfl (by simp) (by omega)) ?_|refine GET.at (gA (by omega)) ?_|refine wm.mk ⟨by omega,by omega⟩ ?_|refine AU ?_|refine IW ?_ ?_<;>intro h<;>try omega)<;>conv=>whnf
      refine⟨(out++ [SA[p]'(by omega)],p+1,q),⟨by dsimp only;omega,by dsimp only;omega,by dsimp only;rw[zg,List.length_singleton];omega,Xz (p:=p) (q:=q) (by omega) (.inl (by omega)) hr⟩,by dsimp only;omega,?_⟩;dsimp only;conv=>whnf
      exact w5.kA h0 [1,2,5]
    .by_cases lP:q<n-n/2
     .have gB:=fun{m:Nat}=>gB (p:=q) (m:=m) (by omega);repeat'(first|(show wO _ _ _ _ _ _ _;first|refine Z3 3 Jv ?_|refine Z3 6 Jw ?_)|refine wm.mk (Zm 224 rfl rfl rfl (by simp) (by omega)) ?_|refine GET.at (gB (by omega)) ?_|refine wm.mk ⟨by omega,by omega⟩ ?_|refine AU ?_|refine IW ?_ ?_<;>intro h<;>try omega)<;>conv=>whnf
      refine⟨(out++ [SB[q]'(by omega)],p,q+1),⟨by dsimp only;omega,by dsimp only;omega,by dsimp only;rw[zg,List.length_singleton];omega,XA (p:=p) (q:=q) (by omega) (.inl (by omega)) hr⟩,by dsimp only;omega,?_⟩;dsimp only;conv=>whnf
      exact w5.kA h0 [1,2,5]
     .have gl:=KJ (by omega) (by omega) hr;have od:out.length=n:=by omega
      repeat'(first|refine IW ?_ ?_<;>intro h<;>try omega)<;>conv=>whnf
      rw[od,gl];exact wh.aA h0 [3] (.sl (.loc 1) 0 16 n none) [(1, .rows 16 (T.map Z4))] (.inr ⟨by omega,rfl,rfl,rfl⟩)
theorem XS{C:Cx}{O:w9}{σ:Nat->Nat}{k i:Nat}{h:Hp}(hk:Nat.blt i k=true)(hl:Yk C O (.loc (σ i))=some h)(hp:V1 h=true):Nat.blt i k=true/\Yk C O (.loc (σ i))=some (wJ σ h)/\Zi k h=true:=
 ⟨hk,by rw[Zu σ hp];exact hl,Yj k hp⟩
open _root_.Go.Proofs.Tryz
def jy(l:List Qd):Int:=if(ZK l).2=0/\4096< (ZA l).length then 2 else(ZK l).2
theorem Z7S(l z:List Qd)(lim:Option Nat)(hl:Xs l)(ql:nC l)(hz:(l++z).length<=1152921504606846976):
 uX prog wD 32 1 [.sl (.loc 0) 0 16 l.length lim] [] [(0, .rows 16 ((l++z).map Z4))] (qE 1 (.int .i64 (jy l))):=by
 have hv:=SG l z lim (by unfold Xs at hl;omega) ql;have gD:=Wy l z lim hl hz;refine uX.enter Z0 call32 func32 rfl 19 rfl rfl [.tmp 2] rfl ?_;intro w0 F η0 h0;conv=>whnf
 skip
 refine CALL.aA [0] (hv) ?_;rintro r O nx ⟨rfl,rfl,rfl⟩;conv=>whnf
 by_cases kH:(ZK l).2=0
 .repeat'(first|refine AU ?_|refine IW ?_ ?_<;>intro h<;>try omega)<;>conv=>whnf
  refine CALL.aA [0] (gD) ?_;rintro r O nx ⟨rfl,rfl,rfl⟩;conv=>whnf
  repeat'(first|refine AU ?_|refine IW ?_ ?_<;>intro h<;>try omega)<;>conv=>whnf
  .refine wh.wC h0 rfl (ze (SV.int _) ?_);unfold jy ZA;rw[zh ⟨kH,by omega⟩]
  .refine wh.wC h0 rfl (ze (SV.int _) ?_);unfold jy ZA;rw[z7 (by rintro⟨_,h1⟩;omega)]
 .repeat'(first|refine AU ?_|refine IW ?_ ?_<;>intro h<;>try omega)<;>conv=>whnf
  refine wh.wC h0 rfl (ze (SV.int _) ?_);unfold jy;rw[z7 (by rintro⟨h1,_⟩;exact kH h1)]
open _root_.Go.Proofs.Tryz
def Zig:wP:=(.take 1 2 (.take 2 2 (.take 3 1 (.take 4 1 (.take 5 2 (.take 6 1 (.fork 0 3 7 3 (Zr [(7,3),(8,0),(9,0)]) (.fork 0 3 8 0 (Zr [(8,0),(9,0)]) (Zr [(0,2),(9,0)])))))))))
theorem Zb9(B:Nat):uX prog wD 35 2 [.ptr (.loc 0) 0 0 0, .int .i64 (B:Int), .ptr (.loc 1) 0 0 0] [] []
 (fun r O nx=>r= .fn (.func 70) [] [.ptr (.loc 4) 0 0 0, .ptr (.loc 3) 0 0 0, .ptr (.loc 2) 0 0 0]/\O=[(2, .box [.ptr (.loc 0) 0 0 0]),(3, .box [.int .i64 (B:Int)]),(4, .box [.ptr (.loc 1) 0 0 0])]/\nx=5):=by
 refine uX.enter Z0 call35 func35 rfl 8 rfl rfl [.tmp 6] rfl ?_;intro w0 F η0 h0;conv=>whnf
 skip
 exact wh.aA h0 [2,3,4] (.fn (.func 70) [] [.ptr (.loc 4) 0 0 0, .ptr (.loc 3) 0 0 0, .ptr (.loc 2) 0 0 0]) [(2, .box [.ptr (.loc 0) 0 0 0]),(3, .box [.int .i64 (B:Int)]),(4, .box [.ptr (.loc 1) 0 0 0])] ⟨rfl,rfl,rfl⟩
def gy(b:Int):Nat:=(min (max b 0) 65536).toNat
theorem IA(b:Int):gy b<=65536:=by unfold gy;omega
theorem Zm5(b:Int):(if 65536< (if b<0 then 0 else b)then 65536 else(if b<0 then 0 else b))=((gy b:Nat):Int):=by
 unfold gy;by_cases h1:b<0
 rw[zh h1,z7 (by omega)];omega
 .rw[z7 h1];by_cases h2:65536<b
  rw[zh h2];omega;rw[z7 h2];omega
theorem Zkx{A:List LB}{c:List Int}(gm:c.length=A.length){i:Nat}(hil:i<A.length)(hit:itoa (c[i]'(by omega))=decDigits (c[i]'(by omega)).toNat):
 List.take i (((qV A c).take i).map XX)++List.take 1 (List.drop 0 [[SV.str A[i],SV.str ((ByteArray.mk #[99]).data.toList++itoa (c[i]'(by omega)))]])=((qV A c).take (i+1)).map XX:=by
 have hp:i< (qV A c).length:=by rw[qD];exact hil
 rw[zH hp,tH hil hp,yj,zi (by simp;omega),hit];have:c.getD i 0=c[i]'(by omega):=by rw[zl,z1 (by omega)];rfl
 rw[this]
 rfl
def KL(l:List Qd)(qp:Int):SV->w9->Nat->Prop:=fun r O nx=>
 (jy l≠0/\r= .wM [.val (.slice none 0 0), .val (.slice none 0 0), .int .i64 (jy l)]/\O=[]/\nx=1)\/
 (jy l=0/\gy qp< (XH (ZA l) l (gy qp)).1/\r= .wM [.val (.slice none 0 0), .val (.slice none 0 0), .int .i64 4]/\O=[]/\nx=1)\/
 (jy l=0/\(XH (ZA l) l (gy qp)).1<=gy qp/\∃c,qT (ZA l) c/\JJ (ZC (ZA l) l) (XH (ZA l) l (gy qp)).2=some (ZC (ZA l) l c,c)/\
   r= .wM [.sl (.loc 1) 0 16 l.length none, .sl (.loc 2) 0 2 (ZA l).length none, .int .i64 0]/\O=[(1, .rows 16 ((ZC (ZA l) l c).map Z4)),(2, .rows 2 ((qV (ZA l) c).map XX))]/\nx=3)
set_option maxHeartbeats 16000000 in
theorem IB(l z:List Qd)(lim:Option Nat)(qp:Int)(dW: -9223372036854775808<=qp/\qp<=9223372036854775807)(hl:Xs l)(ql:nC l)(hz:(l++z).length<=1152921504606846976):
 uX prog wD 13 1 [.sl (.loc 0) 0 16 l.length lim, .int .i64 qp] [] [(0, .rows 16 ((l++z).map Z4))] (KL l qp):=by
 have hf:=ZdF l z lim hl ql hz;have hnd:(ZA l).Nodup:=YZ jO (YY jO _);have hmem:∀x∈ZE l,x∈ZA l:=fun x hx=>(X4 _ _).2 hx;refine uX.enter Z0 call13 func13 rfl 72 rfl rfl [.tmp 4, .tmp 5, .tmp 6] rfl ?_;intro w0 F η0 h0;conv=>whnf
 skip
 refine CALL.aA [0] (hf) ?_;rintro r O nx (⟨hv,rfl,rfl,rfl⟩|⟨hv,hb,rfl,rfl,rfl⟩|⟨hv,hb,rfl,rfl,jj,hj,rfl⟩)
 .have hE:jy l=(ZK l).2:=by unfold jy;rw[z7 (by rintro⟨h1,_⟩;exact hv h1)]
  conv=>whnf
  repeat'(first|refine IW ?_ ?_<;>intro h<;>try omega)<;>conv=>whnf
  exact wh.aA h0 [] (.wM [.val (.slice none 0 0), .val (.slice none 0 0), .int .i64 (ZK l).2]) [] (.inl ⟨by rw[hE];exact hv,by rw[hE],rfl,rfl⟩)
 .have hE:jy l=2:=by unfold jy;rw[zh ⟨hv,hb⟩]
  conv=>whnf
  repeat'(first|refine IW ?_ ?_<;>intro h<;>try omega)<;>conv=>whnf
  exact wh.aA h0 [] (.wM [.val (.slice none 0 0), .val (.slice none 0 0), .int .i64 2]) [] (.inl ⟨by omega,by rw[hE],rfl,rfl⟩)
 have hE:jy l=0:=by unfold jy;rw[z7 (by rintro⟨_,h2⟩;omega),hv]
 obtain⟨A,hA⟩:∃A,A=ZA l:=⟨_,rfl⟩;rw[<-hA]at hnd hb hj hmem⊢;have ga:=(Uj hv).2;have bF:fN A l (List.replicate A.length 0):=⟨by simp,hb,ga,hnd,hmem,fun c hc=>by rw[uL hc];omega⟩;have hR:=I5 A l z lim (List.replicate A.length 0) bF hz;have OO:List.replicate A.length [SV.int .i64 0]=(List.replicate A.length (0:Int)).map Zg:=by rw[x8];rfl
 have FX:=Zm5 qp;have gD:=IA qp;have IC:=Zb9 (gy qp);generalize hB:gy qp=B at FX gD IC⊢;conv=>whnf
 repeat'(first|refine IW ?_ ?_<;>intro h<;>try omega)<;>conv=>whnf
 rw[FX];refine CALL.aA [1,6] (IC) ?_;rintro r O nx ⟨rfl,rfl,rfl⟩;conv=>whnf
 skip
 refine jK.goes (fr':=[(30, .fn (.func 70) [] [.ptr (.loc 11) 0 0 0, .ptr (.loc 10) 0 0 0, .ptr (.loc 9) 0 0 0]),(1, .int .i64 (B:Int)),(7, .ptr (.loc 5) 0 0 0),(9, .ptr (.loc 6) 0 0 0),(10, .ptr (.loc 7) 0 0 0),(11, .ptr (.loc 8) 0 0 0)])
  (O':=[(1,O6 l.length lim A.length),(2, .rows 1 ((A++List.replicate jj []).map Zh)),(3, .mp (kU (Xt 0 A A.length))),(4, .deep false 1 (kL (qv A l))),(5, .box [.ptr (.loc 1) 0 0 0]),(6, .box [.int .i64 0]),(7, .box [.val (.slice none 0 0)]),(8, .box [.val (.slice none 0 0)]),(9, .box [.ptr (.loc 1) 0 0 0]),(10, .box [.int .i64 (B:Int)]),(11, .box [.ptr (.loc 6) 0 0 0])]) (n':=12) (by exact w5.kA h0 [1,2,3,4,5,6,7,8,9,10,11]) ?_
 refine jK.goes (qx.goes (qx.trans (qx.FP 16) (qx.FP 1))) ?_;refine jK.of Z0 (gf:=70) (g:=70) (fn:=f70) (cap:=[.ptr (.loc 11) 0 0 0, .ptr (.loc 10) 0 0 0, .ptr (.loc 9) 0 0 0]) call70 func70 rfl 17 rfl QO rfl rfl rfl rfl rfl ?_;conv=>whnf
 have hout:=h0;intro η1 h0;conv=>whnf
 repeat'(first|(show wO _ _ _ _ _ _ _;first|refine Z3 3 Zig ?_)|refine qJ.mk (fun _ _=>?_)|refine AD ?_|refine j9.mk ?_ ?_|refine wm.mk (UN 8 rfl (by omega) (by omega) (by omega) (by omega)) ?_)<;>conv=>whnf
 all_goals
  rw[Int.toNat_natCast,OO];refine CALL.aA [1,0,3,4,18,2] (hR) ?_;rintro r O nx ⟨F,hF,rfl,rfl,rfl⟩;obtain⟨oT,lN⟩:=hF.ok;rw[yN]at oT lN;have hwk:=Zgu A l z lim B gD hb ga hnd hmem hz (B+1) 0 [] F (by omega) (by omega) ⟨oT,fun c hc=>by rw[oT];exact lN c hc⟩ (fun c hc=>by cases hc) (fun _=>rfl);rw[En]at hwk;have dJ:XH A l B=Vn A l B (B+1) F (0,[]):=by unfold XH;rw[El hF]
  have o4:=fun h=>Ig (A:=A) (l:=l) (B:=B) h;rw[<-dJ]at hwk;generalize hs2:XH A l B=s2 at hwk o4;conv=>whnf
  repeat'(first|refine AD ?_)<;>conv=>whnf
  refine CALL.aA [1,0,3,4,19,2,11,10,16,17,9,5,6,15,7,8,12,13] (hwk) ?_;rintro r O nx ⟨tX,rfl,rfl,rfl⟩;have h0:=hout;conv=>whnf
  repeat'(first|refine IW ?_ ?_<;>intro h<;>try omega)<;>conv=>whnf
  .refine wh.aA h0 [] (.wM [.val (.slice none 0 0), .val (.slice none 0 0), .int .i64 4]) [] (.inr (.inl ⟨hE,?_,rfl,rfl,rfl⟩));rw[hB,<-hA,hs2];omega
  obtain⟨c,hc,FY⟩:=Eo (ZC A l) (o4 (by omega));have sP:=tX c hc;have gm:=sP.cn
  have gl:∀(r:SV) (O:w9),r= .wM [.sl (.loc 1) 0 16 l.length none, .sl (.loc 2) 0 2 A.length none, .int .i64 0]->O=[(1, .rows 16 ((ZC A l c).map Z4)),(2, .rows 2 ((qV A c).map XX))]->KL l qp r O 3:=fun r O hr hO=>by
   refine .inr (.inr ⟨hE,?_,c,?_,?_,?_,?_,rfl⟩);rw[hB,<-hA,hs2];omega;rw[<-hA];exact sP;rw[hB,<-hA,hs2];exact FY;rw[<-hA];exact hr;rw[<-hA];exact hO
  have hfl:=Jt A l c;rw[FY];refine wj.nil 14 2 rfl ?_;refine wj.jD Z0 [10,11,51,52] [] (X:=Nat) (fun i=>i<=A.length) (fun i=>[(53, .int .i64 (i:Int)),(14, .sl (.loc 22) 0 2 i none)]) (fun i=>[(2, .rows 1 ((A++List.replicate jj []).map Zh)),(7, .box [.sl (.loc 20) 0 16 (ZC A l c).length none]),(8, .box [.sl (.loc 21) 0 1 c.length none]),(14, .eP []),(20, .rows 16 ((ZC A l c).map Z4)),(21, .rows 1 (c.map Zg)),(22, .rows 2 (((qV A c).take i).map XX))]) 23 (fun i=>A.length-i) 0 (by omega) ?_;conv=>whnf
  refine⟨by exact w5.kA h0 [1,2,3,4,5,6,7,8,9,10,11,12,13,14,15,16,17,18,19,20,21,22],?_⟩;intro i hi;conv=>whnf
  by_cases hil:i<A.length
  .have hv:=sP.cs _ (zm (show i<c.length by omega));have gA:∀{m:Nat},m=i->((A++List.replicate jj []).map Zh)[m]?=some (Zh A[i]):=fun e=>by subst e;rw[z6,zn hil,z1 hil];rfl
   have gC:∀{m:Nat},m=i->(c.map Zg)[m]?=some (Zg (c[i]'(by omega))):=fun e=>by subst e;rw[z6,z1 (by omega)];rfl
   have hit:itoa (c[i]'(by omega))=decDigits (c[i]'(by omega)).toNat:=by unfold itoa;rw[z7 (by omega)]
   have OP:(itoa (c[i]'(by omega))).length<=4:=by rw[hit];exact Wn 3 _ (by omega)
   have o9:=Zkx (A:=A) (c:=c) gm hil hit;repeat'(first|refine GET.at (gA (by omega)) ?_|refine GET.at (gC (by omega)) ?_|refine CALL.value (AO (c[i]'(by omega)) ⟨by omega,by omega⟩) rfl rfl ?_|refine wm.mk (show 1+(itoa (c[i]'(by omega))).length<=9223372036854775807 by omega) ?_|refine wm.mk (Zm 32 rfl rfl rfl (by simp[qD];omega) (by omega)) ?_|refine AU ?_|refine IW ?_ ?_<;>intro h<;>try omega)<;>conv=>whnf
   refine⟨i+1,by omega,by omega,?_⟩;rw[o9];conv=>whnf
   exact w5.kA h0 [1,2,3,4,5,6,7,8,9,10,11,12,13,14,15,16,17,18,19,20,21,24]
  .have hie:i=A.length:=by omega
   subst hie;rw[zi (by rw[qD];exact zo _)];repeat'(first|refine IW ?_ ?_<;>intro h<;>try omega)<;>conv=>whnf
   rw[hfl];exact wh.aA h0 [20,22] (.wM [.sl (.loc 1) 0 16 l.length none, .sl (.loc 2) 0 2 A.length none, .int .i64 0]) [(1, .rows 16 ((ZC A l c).map Z4)),(2, .rows 2 ((qV A c).map XX))] (gl _ _ rfl rfl)
open _root_.Go.Proofs.Tryz
def OQ:wP:=(Zr [(0,1),(1,1),(2,1),(4,1),(5,1),(6,1),(8,1),(11,1),(3,2),(7,2),(9,1),(10,2),(12,0)])
def OR:wP:=(Zr [(0,1),(1,1),(2,1),(4,1),(5,1),(6,1),(3,2),(7,2),(8,3),(9,1)])
def OS:wP:=(.take 0 1 (.take 1 1 (.take 2 1 (.take 4 1 (.take 5 1 (.take 6 1 (.take 7 1 (.take 9 1 (.take 12 1 (.take 8 2 (.take 10 1 (.take 11 2 (.fork 3 3 13 3 (Zr [(13,3),(14,0),(15,1),(16,0)]) (.fork 3 3 14 0 (Zr [(14,0),(15,1),(16,0)]) (Zr [(3,2),(15,1),(16,0)])))))))))))))))
def IG(n:Nat)(lim:Option Nat)(nl:Nat):Hp:= .box [.sl (.loc 0) 0 16 n lim, .sl (.loc 2) 0 1 nl none, .mp (.loc 3), .sl (.loc 4) 0 1 nl none]
theorem Zgy(l z:List Qd)(lim:Option Nat)(hl:Xs l)(QF:l.length<=1048576)(bD:(ZA l).length<=4096)(hz:(l++z).length<=1152921504606846976):
 uX prog wD 33 1 [.sl (.loc 0) 0 16 l.length lim] [] [(0, .rows 16 ((l++z).map Z4))]
 (fun r O nx=>r= .ptr (.loc 1) 0 0 0/\O=[(1,IG l.length lim (ZA l).length),(2, .rows 1 ((ZA l).map Zh)),(3, .mp (kU (Xt 0 (ZA l) (ZA l).length))),(4, .deep false 1 (kL (qv (ZA l) l)))]/\nx=5):=by
 have gD:=Wy l z lim hl hz;have hnd:(ZA l).Nodup:=YZ jO (YY jO _);have hmem:∀x∈ZE l,x∈ZA l:=fun x hx=>(X4 _ _).2 hx;refine uX.enter Z0 call33 func33 rfl 89 rfl rfl [.tmp 2] rfl ?_;intro w0 F η0 h0;conv=>whnf
 skip
 refine CALL.aA [0] (gD) ?_;rintro r O nx ⟨rfl,rfl,rfl⟩;have ku:qI Our.cmpL (ZE l)=ZA l:=rfl;rw[ku];obtain⟨A,hA⟩:∃A,A=ZA l:=⟨_,rfl⟩;rw[<-hA]at hnd hmem bD⊢;conv=>whnf
 skip
 refine wj.jD Z0 [0,3] [] (X:=Nat) (fun i=>i<=A.length) (fun i=>[(4, .int .i64 (i:Int))]) (fun i=>[(1, .rows 1 (A.map Zh)),(2, .mp (kU (Xt 0 A i))),(3, .box [.sl (.loc 0) 0 16 l.length lim, .sl (.loc 1) 0 1 A.length none, .mp (.loc 2), .val (.slice none 0 0)])]) 4 (fun i=>A.length-i) 0 (by omega) ?_;conv=>whnf
 refine⟨by exact w5.cA h0,?_⟩;intro i hi;conv=>whnf
 by_cases hlt:i<A.length
 .have hs:=AP (b:=0) hlt;rw[Int.zero_add]at hs;have gA:∀{k:Nat},k=i->(A.map Zh)[k]?=some (Zh A[i]):=fun e=>by subst e;rw[z6,z1 hlt];rfl
  repeat'(first|(show wO _ _ _ _ _ _ _;first|refine Z3 5 OQ ?_|refine Z3 14 OR ?_|refine Z3 15 OS ?_)|refine AD ?_|refine GET.at (gA (by omega)) ?_|refine wm.mk ⟨KT.ok _,VL KT _ _⟩ ?_|refine AU ?_|refine IW ?_ ?_<;>intro h<;>try omega)<;>conv=>whnf
  all_goals
   first|rw[Tk,<-hs]|rw[Tl,<-hs]
   refine⟨i+1,by omega,by omega,?_⟩;conv=>whnf
   exact w5.cA h0
 have hie:i=A.length:=by omega
 subst hie;clear hlt;repeat'(first|refine wm.mk (UN 24 rfl (by omega) (by omega) (by omega) (by omega)) ?_|refine IW ?_ ?_<;>intro h<;>try omega)<;>conv=>whnf
 refine qx.loop (qx.bY 4 (kL (List.replicate A.length [])) rfl (by rw[Int.toNat_natCast];exact TH _)) ?_;rw[Int.toNat_natCast];have sF:=Fy (b:=0) hnd;refine wj.jD Z0 [0,3] [] (X:=Nat) (fun k=>k<=l.length) (fun k=>[(5, .int .i64 (k:Int))]) (fun k=>[(1, .rows 1 (A.map Zh)),(2, .mp (kU (Xt 0 A A.length))),(3, .box [.sl (.loc 0) 0 16 l.length lim, .sl (.loc 1) 0 1 A.length none, .mp (.loc 2), .sl (.loc 4) 0 1 A.length none]),(4, .deep false 1 (kL ((List.range A.length).map (nY A l k))))]) 5 (fun k=>l.length-k) 0 (by omega) ?_;conv=>whnf
 refine⟨by rw[Tz];exact w5.cA h0,?_⟩;intro k hk;conv=>whnf
 by_cases pz:k<l.length
 .obtain⟨q,hq⟩:∃q,q=l[k]:=⟨_,rfl⟩;have bE:∀s∈Zx q,s∈A:=fun s hs=>hmem s (xB.2 ⟨q,by rw[hq];exact zm pz,hs⟩);have hw:IntKind.i64.wrap ((k:Int)+1)=((k+1:Nat):Int):=by rw[Z5 (by omega) (by omega)];omega
  have l6:((k+1:Nat):Int).toNat-((k:Int)).toNat=1:=by omega
  have eR:((l++z).map Z4).drop (0+((k:Int)).toNat)=([q]++(l++z).drop (k+1)).map Z4:=by
   rw[zy,Int.toNat_natCast,<-vL,zq (show k< (l++z).length by rw[zg];omega),List.getElem_append_left pz,<-hq];rfl
  have FH:=Wy [q] ((l++z).drop (k+1)) none (by unfold Xs;simp) (by rw[zg,zF,List.length_singleton];omega);obtain⟨B,hB⟩:∃B,B=qI Our.cmpL (ZE [q]):=⟨_,rfl⟩;rw[<-hB]at FH;have hBn:B.Nodup:=by rw[hB];exact YZ jO (YY jO _)
  have II:∀s,s∈B<->s∈Zx q:=fun s=>by rw[hB,X4];simp[ZE]
  have hBl:B.length<=16:=by rw[hB];exact zP (Kk _) (by simp[ZE];have:=UM q;omega)
  repeat'(first|rw[hw];refine wm.mk ⟨by omega,by omega,GI (by omega)⟩ ?_;rw[l6]|refine IW ?_ ?_<;>intro h<;>try omega)<;>conv=>whnf
  refine CALL.part rfl (by omega) (fun η1=>?_);rw[eR];refine CALL.aA [5] (FH) ?_;rintro r O nx ⟨rfl,rfl,rfl⟩;conv=>whnf
  skip
  rw[<-Ty];refine wj.jD Z0 [0,3,5,6] [] (X:=Nat) (fun j=>j<=B.length) (fun j=>[(7, .int .i64 (j:Int)),(6, .sl (.loc 6) 0 1 B.length none)]) (fun j=>[(1, .rows 1 (A.map Zh)),(2, .mp (kU (Xt 0 A A.length))),(3, .box [.sl (.loc 0) 0 16 l.length lim, .sl (.loc 1) 0 1 A.length none, .mp (.loc 2), .sl (.loc 4) 0 1 A.length none]),(4, .deep false 1 (kL (J8 A l k (B.take j)))),(6, .rows 1 (B.map Zh))]) 7 (fun j=>B.length-j) 0 (by omega) ?_;conv=>whnf
  refine⟨by exact w5.kA h0 [1,2,3,4,5,6],?_⟩;intro j hj;conv=>whnf
  by_cases OU:j<B.length
  .have oQ:B[j]∈A:=bE _ ((II _).1 (zm OU))
   have nA:B[j]∉B.take j:=fun hm=>by
    obtain⟨m,Q0,he⟩:=xZ.1 hm;rw[vz]at he;rw[zu]at Q0;exact absurd ((xm hBn).1 he) (by omega)
   have hS:B.take (j+1)=B.take j++ [B[j]]:=zH OU;have gB:∀{m:Nat},m=j->(B.map Zh)[m]?=some (Zh B[j]):=fun e=>by subst e;rw[z6,z1 OU];rfl
   obtain⟨T,sH⟩:∃T,T=B.take j:=⟨_,rfl⟩;rw[<-sH]at hS nA⊢;obtain⟨t,ht⟩:∃t,t=B[j]:=⟨_,rfl⟩;rw[<-ht]at oQ nA hS gB;have kP:=yA oQ;have nG:A[A.idxOf t]=t:=x7 kP;have o7:nX 0 A t=((A.idxOf t:Nat):Int):=by unfold nX;rw[zh oQ];omega
   generalize A.idxOf t=n0 at kP nG o7;repeat'(first|(show wO _ _ _ _ _ _ _;first|refine Z3 5 OQ ?_|refine Z3 14 OR ?_|refine Z3 15 OS ?_)|refine qJ.mk (fun _ _=>?_)|refine AD ?_|refine GET.at (gB (by omega)) ?_|refine AU ?_|refine IW ?_ ?_<;>intro h<;>try omega)<;>conv=>whnf
   refine wm.mk ⟨KT.ok _,VL KT dw _⟩ ?_;refine bJ.A KT dw t (Xt 0 A A.length) (fun i v hf=>?_) (fun hf=>?_)
   rotate_left
   .have hg:=QC (b:=0) hnd A.length t (zo _);rw[UH hf,<-nG,hnd.idxOf_getElem n0 kP,yg kP]at hg;cases hg
   have hv:=Fw hf;rw[sF,o7]at hv;subst hv;conv=>whnf
   have av:n0< (J8 A l k T).length:=by rw[Vy];exact kP
   have FG:(J8 A l k T)[n0].length<=1048577:=by have:=Tx _ (zm av);omega
   refine qx.drawn (qx.take 4 n0 0 rfl (UW av) rfl) ?_;rw[show(List.map Yf (J8 A l k T)[n0]).length=(J8 A l k T)[n0].length from zA ..];obtain⟨L,hL⟩:∃L,L=(J8 A l k T)[n0]:=⟨_,rfl⟩;rw[<-hL]at FG⊢;rw[<-nG]at nA;clear bE hmem gD ku FH;repeat'(first|(show wO _ _ _ _ _ _ _;first|refine Z3 5 OQ ?_|refine Z3 14 OR ?_|refine Z3 15 OS ?_)|refine qJ.mk (fun _ _=>?_)|refine AD ?_|refine j9.mk ?_ ?_|refine GET.at (by rw[zy];exact ES (UW av)) ?_|refine kF.at (by rw[zy];exact EU (UW av)) ?_|refine wm.mk (Zm 8 rfl rfl (by simp) (by simp) (by omega)) ?_|refine AU ?_)<;>conv=>whnf
   all_goals
    rw[O5 av (by omega) (s:=k) (by rw[<-hL];rw[zi (by simp),zi (by simp)];simp[Yf]),<-AZ hnd kP nA,nG,<-hS];refine⟨j+1,by omega,by omega,?_⟩;conv=>whnf
    exact w5.kA h0 [1,2,3,4,5,6]
  .have Qm:j=B.length:=by omega
   subst Qm;rw[zX,TA pz (fun s _=>by rw[II,hq])];repeat'(first|refine IW ?_ ?_<;>intro h<;>try omega)<;>conv=>whnf
   refine⟨k+1,by omega,by omega,?_⟩;conv=>whnf
   exact w5.kA h0 [1,2,3,4]
 .have hke:k=l.length:=by omega
  subst hke;repeat'(first|refine IW ?_ ?_<;>intro h<;>try omega)<;>conv=>whnf
  exact wh.aA h0 [3,1,2,4] (.ptr (.loc 1) 0 0 0) [(1,IG l.length lim A.length),(2, .rows 1 (A.map Zh)),(3, .mp (kU (Xt 0 A A.length))),(4, .deep false 1 (kL (qv A l)))] ⟨rfl,rfl,rfl⟩
open _root_.Go.Proofs.Tryz
def Jx:wP:=(Zr [(0,1),(1,1),(2,1),(3,1),(4,1),(6,1),(7,1),(8,1),(9,1),(10,1),(5,3),(11,3),(12,1),(13,1)])
def Jy:wP:=(Zr [(0,1),(1,1),(2,1),(3,1),(4,1),(5,1),(6,1),(7,1),(8,1),(9,1),(11,1),(12,1),(10,2),(13,2),(14,3),(15,1),(16,1),(17,1)])
theorem CALL.pR{M:Mx}{O:w9}{nx:Nat}{G:World->Prop}{f:FuncId}{args:List SV}{K:SV->w9->Nat->Prop}{r:SV}(sp:cz G M.P M.C.T f 0 args [] [] (qd r))(hG:∀J w,uY M J w O nx->G w)(hp:plain r=true)(hpa:YM args=true)(hK:K r O nx):CALL M f args O nx K:=by
 refine CALL.Ky [] sp hG rfl (fun i hi=>by cases hi) (ZN _ hpa).symm (ZF 0 hpa) (fun p hp=>by cases hp) (fun j hj=>by cases hj) (fun p hp=>by cases hp) ?_;rintro r' O' w8 ⟨rfl,rfl,rfl⟩;rw[X9 _ hp];simpa[kJ,Zd,XE]using hK
def X1(col:Nat->Int)(vl:Nat->Value)(x:Nat):List SV:=[.int .i64 (x:Int), .int .i64 (col x), .val (vl x)]
theorem UQ(col:Nat->Int)(vl:Nat->Value)(l:List Nat):Zp (l.map (X1 col vl))=true:=ZH _ (fun _=>rfl) l
instance {col:Nat->Int}{vl:Nat->Value}:PlF (X1 col vl):=⟨fun _=>rfl⟩
abbrev eT(col:Nat->Int)(sg:Nat->List Qd)(a b:Nat):Int:=VN (col a) (col b) (sg a) (sg b)
def Zm6(col:Nat->Int)(vl:Nat->Value)(sg:Nat->List Qd)(i n:Nat)(l:List Nat):SV->w9->Nat->Prop:=fun r O nx=>
 (n<2/\r= .sl (.loc 0) i 3 n none/\O=[]/\nx=1)\/(2<=n/\∃o:List Nat,o.Perm l/\(o.Pairwise fun a b=>eT col sg a b<=0)/\r= .sl (.loc 1) 0 3 n none/\O=[(1, .rows 3 (o.map (X1 col vl)))]/\nx=2)
theorem VT{c:Nat->Nat->Int}{l:List Nat}(h:l.length<2):l.Pairwise fun a b=>c a b<=0:=by
 match l,h with
 | [],_=>exact .nil
 | [x],_=>simp
theorem Zbb(col:Nat->Int)(vl:Nat->Value)(sg:Nat->List Qd)(gE:∀x,(sg x).length<=1152921504606846976)(jm:∀x,0<=col x/\col x<1048576)(hpre:Pre (eT col sg))(L:List Nat)(hL:L.length<=1048576):
 ∀(k n i:Nat) (hk:n<=k) (hi:i+n<=L.length),cz (fun w=> ∀x∈L,∃en,qj w (vl x) 16 ((sg x).map Z4) en) prog wD 67 1 [.sl (.loc 0) i 3 n none] [] [(0, .rows 3 (L.map (X1 col vl)))] (Zm6 col vl sg i n ((L.drop i).take n)):=by
 intro k
 induction k with
 |zero=>
  intro n i hk hi;refine uX.eX Z0 call67 func67 rfl 65 rfl rfl [.tmp 2] rfl ?_;intro w0 F η0 h0 hG hF;conv=>whnf
  repeat'(first|refine IW ?_ ?_<;>intro h<;>try omega)<;>conv=>whnf
  exact wh.aA h0 [] (.sl (.loc 0) i 3 n none) [] (.inl ⟨by omega,rfl,rfl,rfl⟩)
 |succ k ih=>
  intro n i hk hi;by_cases hn2:n<2
  .refine uX.eX Z0 call67 func67 rfl 65 rfl rfl [.tmp 2] rfl ?_;intro w0 F η0 h0 hG hF;conv=>whnf
   repeat'(first|refine IW ?_ ?_<;>intro h<;>try omega)<;>conv=>whnf
   exact wh.aA h0 [] (.sl (.loc 0) i 3 n none) [] (.inl ⟨by omega,rfl,rfl,rfl⟩)
  have h1:=ih (n/2) i (by omega) (by omega);have h2:=ih (n-n/2) (i+n/2) (by omega) (by omega);have hd:(n:Int).tdiv 2=((n/2:Nat):Int):=by rw[yZ (by omega)];omega
  have OL:IntKind.i64.wrap ((n:Int).tdiv 2)=((n/2:Nat):Int):=by rw[hd,Z5 (by omega) (by omega)]
  have gN:∀{S:List Nat} {p m:Nat} (h:p<S.length),m=0+p->(S.map (X1 col vl))[m]?=some (X1 col vl S[p]):=fun h e=>by subst e;rw[z6,z1 (by omega)];simp
  have gO:∀{o k p m:Nat} (h:p< ((L.drop o).take k).length),m=o+p->(L.map (X1 col vl))[m]?=some (X1 col vl ((L.drop o).take k)[p]):=fun{o k p m} h e=>by
   subst e;have h1:=h;rw[zu,zF]at h1;rw[z6,z1 (by omega),vz,List.getElem_drop];rfl
  have nI:∀{S:List Nat} {o k:Nat},S.Perm ((L.drop o).take k)->∀x∈S,x∈L:=fun h x hx=>vG (uf (h.mem_iff.1 hx))
  have OV:∀(SA SB:List Nat),SA.Perm ((L.drop i).take (n/2))->SB.Perm ((L.drop (i+n/2)).take (n-n/2))->(gq (eT col sg) SA SB).Perm ((L.drop i).take n):=fun SA SB h1 h2=>by
   refine(KH _ _ _ (zo _)).trans ((h1.append h2).trans ?_);rw[show(L.drop i).take (n/2)=((L.drop i).take n).take (n/2)by rw[v7,yQ (by omega)],show(L.drop (i+n/2)).take (n-n/2)=((L.drop i).take n).drop (n/2)by rw[uy,yt],yM]
  refine uX.eX Z0 call67 func67 rfl 65 rfl rfl [.tmp 2] rfl ?_;intro w0 F η0 h0 hG hF;conv=>whnf
  have hno:∀k, ¬F k:=fun k h=>by rw[hF]at h;simp[Yt,wu]at h
  have KM:∀x∈L,∀{w':World},jS w0 w' F->∃en,qj w' (vl x) 16 ((sg x).map Z4) en:=fun x hx w' hf=>let⟨en,h⟩:=hG x hx;⟨en,h.now hf hno⟩
  repeat'(first|(refine qJ.tw (fun η2 w2 H2=>?_);(have FZ:=fun x hx=>KM x hx H2.fr))|(show wO _ _ _ _ _ _ _;first|refine Z3 3 Jx ?_|refine Z3 6 Jy ?_)|refine AD ?_|rw[OL]|rw[Int.toNat_natCast]|refine AU ?_|refine IW ?_ ?_<;>intro h<;>try omega)<;>conv=>whnf
  refine CALL.Ky [0] h1 (fun η' w' H' x hx=>let⟨en,h⟩:=FZ x hx;⟨en,h.now H'.fr (fun k h=>h)⟩) rfl (fun i hi=>by simp at hi;omega) rfl rfl (fun p hp=>by cases hp) (fun j hj=>by cases hj) (fun p hp=>by
   obtain rfl:=zL.1 hp
   exact⟨by show 0<1;omega,by rw[Zu _ (h:= .rows _ _) (UQ col vl L)];rfl,Yj _ (h:= .rows _ _) (UQ col vl L),by simp[Zd]⟩) ?_
  rintro r O nx (⟨g1,rfl,rfl,rfl⟩|⟨g1,oA,pA,sA,rfl,rfl,rfl⟩)
  .conv=>whnf
   repeat'(first|(refine qJ.tw (fun η2 w2 H2=>?_);(have FZ:=fun x hx=>KM x hx H2.fr)))<;>conv=>whnf
   refine CALL.Ky [0] h2 (fun η' w' H' x hx=>let⟨en,h⟩:=FZ x hx;⟨en,h.now H'.fr (fun k h=>h)⟩) rfl (fun i hi=>by simp at hi;omega) rfl rfl (fun p hp=>by cases hp) (fun j hj=>by cases hj) (fun p hp=>by
    obtain rfl:=zL.1 hp
    exact⟨by show 0<1;omega,by rw[Zu _ (h:= .rows _ _) (UQ col vl L)];rfl,Yj _ (h:= .rows _ _) (UQ col vl L),by simp[Zd]⟩) ?_
   rintro r O nx (⟨g2,rfl,rfl,rfl⟩|⟨g2,oB,pB,sB,rfl,rfl,rfl⟩)
   .conv=>whnf
    skip
    obtain⟨SA,tY⟩:∃S,S=(L.drop (i)).take (n/2):=⟨_,rfl⟩;have pA:SA.Perm ((L.drop (i)).take (n/2)):=tY▸vF _;have sM:SA.length=n/2:=by rw[pA.length_eq,zu,zF];omega
    have sA:SA.Pairwise fun a b=>eT col sg a b<=0:=VT (by omega);have gA:∀{p m:Nat} (h:p<SA.length),m=i+p->(L.map (X1 col vl))[m]?=some (X1 col vl SA[p]):=by subst tY;exact fun h e=>gO h e
    obtain⟨SB,QS⟩:∃S,S=(L.drop (i+n/2)).take (n-n/2):=⟨_,rfl⟩;have pB:SB.Perm ((L.drop (i+n/2)).take (n-n/2)):=QS▸vF _;have sN:SB.length=n-n/2:=by rw[pB.length_eq,zu,zF];omega
    have sB:SB.Pairwise fun a b=>eT col sg a b<=0:=VT (by omega);have gB:∀{p m:Nat} (h:p<SB.length),m=i+n/2+p->(L.map (X1 col vl))[m]?=some (X1 col vl SB[p]):=by subst QS;exact fun h e=>gO h e
    have lQ:=nI pA;have lR:=nI pB;have hT:([]:List Nat)++gq (eT col sg) (SA.drop 0) (SB.drop 0)=gq (eT col sg) SA SB:=rfl;have tZ:=Um hpre _ SA SB (zo _) sA sB;have lS:=OV SA SB pA pB;generalize gq (eT col sg) SA SB=T at hT tZ lS;have OM:T.length=n:=by rw[lS.length_eq,zu,zF];omega
    refine wj.nil 5 3 rfl ?_
    refine wj.jD Z0 [] [] (X:=List Nat×Nat×Nat) (fun x=>x.2.1<=n/2/\x.2.2<=n-n/2/\x.1.length=x.2.1+x.2.2/\x.1++gq (eT col sg) (SA.drop x.2.1) (SB.drop x.2.2)=T)
     (fun x=>[(3, .sl (.loc 0) (i+x.2.1) 3 (n/2-x.2.1) none),(4, .sl (.loc 0) (i+n/2+x.2.2) 3 (n-n/2-x.2.2) none),(5, .sl (.loc 1) 0 3 x.1.length none)]) (fun x=>[(1, .rows 3 (x.1.map (X1 col vl)))]) 2 (fun x=>(n/2-x.2.1)+(n-n/2-x.2.2)) ([],0,0) ⟨by simp,by simp,by simp,hT⟩ ?_
    conv=>whnf
    refine⟨by exact w5.kA h0 [1],?_⟩;rintro⟨out,p,q⟩ ⟨hp,hq,ho,hr⟩;dsimp only at hp hq ho hr⊢;have gp:out.length<=2097152:=by omega
    conv=>whnf
    by_cases oP:p<n/2
    .have gA:=fun{m:Nat}=>gA (p:=p) (m:=m) (by omega);by_cases lP:q<n-n/2
     .have gB:=fun{m:Nat}=>gB (p:=q) (m:=m) (by omega);repeat'(first|(refine qJ.tw (fun η3 w3 H3=>?_);(have i6:=fun x hx=>KM x hx H3.fr))|(show wO _ _ _ _ _ _ _;first|refine Z3 3 Jx ?_|refine Z3 6 Jy ?_)|refine CALL.pR (JW (SA[p]'(by omega)) (SB[q]'(by omega)) (col (SA[p]'(by omega))) (col (SB[q]'(by omega))) (vl (SA[p]'(by omega))) (vl (SB[q]'(by omega))) (sg (SA[p]'(by omega))) (sg (SB[q]'(by omega))) (gE _) (gE _) (jm _) (jm _)) (fun η' w' H'=>⟨(let⟨en,h⟩:=i6 _ (lQ _ (zm (by omega)));⟨en,h.now H'.fr (fun k h=>h)⟩),(let⟨en,h⟩:=i6 _ (lR _ (zm (by omega)));⟨en,h.now H'.fr (fun k h=>h)⟩)⟩) rfl rfl ?_|refine wm.mk (Zm 40 rfl rfl rfl (by simp) (by omega)) ?_|refine GET.at (gA (by omega)) ?_|refine GET.at (gB (by omega)) ?_|refine wm.mk ⟨by omega,by omega⟩ ?_|refine AU ?_|refine IW ?_ ?_<;>intro h<;>try omega)<;>conv=>whnf
      .refine⟨(out++ [SA[p]'(by omega)],p+1,q),⟨by dsimp only;omega,by dsimp only;omega,by dsimp only;rw[zg,List.length_singleton];omega,Xz (p:=p) (q:=q) (by omega) (.inr ⟨by omega,by unfold eT;assumption⟩) hr⟩,by dsimp only;omega,?_⟩;dsimp only;conv=>whnf
       exact w5.kA h0 [3]
      .refine⟨(out++ [SB[q]'(by omega)],p,q+1),⟨by dsimp only;omega,by dsimp only;omega,by dsimp only;rw[zg,List.length_singleton];omega,XA (p:=p) (q:=q) (by omega) (.inr ⟨by omega,by unfold eT;omega⟩) hr⟩,by dsimp only;omega,?_⟩;dsimp only;conv=>whnf
       exact w5.kA h0 [3]
     .repeat'(first|(show wO _ _ _ _ _ _ _;first|refine Z3 3 Jx ?_|refine Z3 6 Jy ?_)|refine wm.mk (Zm 40 rfl rfl rfl (by simp) (by omega)) ?_|refine GET.at (gA (by omega)) ?_|refine wm.mk ⟨by omega,by omega⟩ ?_|refine AU ?_|refine IW ?_ ?_<;>intro h<;>try omega)<;>conv=>whnf
      refine⟨(out++ [SA[p]'(by omega)],p+1,q),⟨by dsimp only;omega,by dsimp only;omega,by dsimp only;rw[zg,List.length_singleton];omega,Xz (p:=p) (q:=q) (by omega) (.inl (by omega)) hr⟩,by dsimp only;omega,?_⟩;dsimp only;conv=>whnf
      exact w5.kA h0 [3]
    .by_cases lP:q<n-n/2
     .have gB:=fun{m:Nat}=>gB (p:=q) (m:=m) (by omega);repeat'(first|(show wO _ _ _ _ _ _ _;first|refine Z3 3 Jx ?_|refine Z3 6 Jy ?_)|refine wm.mk (Zm 40 rfl rfl rfl (by simp) (by omega)) ?_|refine GET.at (gB (by omega)) ?_|refine wm.mk ⟨by omega,by omega⟩ ?_|refine AU ?_|refine IW ?_ ?_<;>intro h<;>try omega)<;>conv=>whnf
      refine⟨(out++ [SB[q]'(by omega)],p,q+1),⟨by dsimp only;omega,by dsimp only;omega,by dsimp only;rw[zg,List.length_singleton];omega,XA (p:=p) (q:=q) (by omega) (.inl (by omega)) hr⟩,by dsimp only;omega,?_⟩;dsimp only;conv=>whnf
      exact w5.kA h0 [3]
     .have gl:=KJ (by omega) (by omega) hr;have od:out.length=n:=by omega
      repeat'(first|refine IW ?_ ?_<;>intro h<;>try omega)<;>conv=>whnf
      rw[od,gl];exact wh.aA h0 [1] (.sl (.loc 1) 0 3 n none) [(1, .rows 3 (T.map (X1 col vl)))] (.inr ⟨by omega,T,lS,tZ,rfl,rfl,rfl⟩)
   .conv=>whnf
    skip
    obtain⟨SA,tY⟩:∃S,S=(L.drop (i)).take (n/2):=⟨_,rfl⟩;have pA:SA.Perm ((L.drop (i)).take (n/2)):=tY▸vF _;have sM:SA.length=n/2:=by rw[pA.length_eq,zu,zF];omega
    have sA:SA.Pairwise fun a b=>eT col sg a b<=0:=VT (by omega);have gA:∀{p m:Nat} (h:p<SA.length),m=i+p->(L.map (X1 col vl))[m]?=some (X1 col vl SA[p]):=by subst tY;exact fun h e=>gO h e
    obtain⟨SB,QS⟩:∃S,S=oB:=⟨_,rfl⟩;rw[<-QS]at pB sB⊢;have sN:SB.length=n-n/2:=by rw[pB.length_eq,zu,zF];omega
    have gB:∀{p m:Nat} (h:p<SB.length),m=0+p->(SB.map (X1 col vl))[m]?=some (X1 col vl SB[p]):=fun h e=>gN h e;have lQ:=nI pA;have lR:=nI pB;have hT:([]:List Nat)++gq (eT col sg) (SA.drop 0) (SB.drop 0)=gq (eT col sg) SA SB:=rfl;have tZ:=Um hpre _ SA SB (zo _) sA sB;have lS:=OV SA SB pA pB;generalize gq (eT col sg) SA SB=T at hT tZ lS;have OM:T.length=n:=by rw[lS.length_eq,zu,zF];omega
    refine wj.nil 5 3 rfl ?_
    refine wj.jD Z0 [] [] (X:=List Nat×Nat×Nat) (fun x=>x.2.1<=n/2/\x.2.2<=n-n/2/\x.1.length=x.2.1+x.2.2/\x.1++gq (eT col sg) (SA.drop x.2.1) (SB.drop x.2.2)=T)
     (fun x=>[(3, .sl (.loc 0) (i+x.2.1) 3 (n/2-x.2.1) none),(4, .sl (.loc 1) (0+x.2.2) 3 (n-n/2-x.2.2) none),(5, .sl (.loc 2) 0 3 x.1.length none)]) (fun x=>[(1, .rows 3 (SB.map (X1 col vl))),(2, .rows 3 (x.1.map (X1 col vl)))]) 3 (fun x=>(n/2-x.2.1)+(n-n/2-x.2.2)) ([],0,0) ⟨by simp,by simp,by simp,hT⟩ ?_
    conv=>whnf
    refine⟨by exact w5.kA h0 [1,2],?_⟩;rintro⟨out,p,q⟩ ⟨hp,hq,ho,hr⟩;dsimp only at hp hq ho hr⊢;have gp:out.length<=2097152:=by omega
    conv=>whnf
    by_cases oP:p<n/2
    .have gA:=fun{m:Nat}=>gA (p:=p) (m:=m) (by omega);by_cases lP:q<n-n/2
     .have gB:=fun{m:Nat}=>gB (p:=q) (m:=m) (by omega);repeat'(first|(refine qJ.tw (fun η3 w3 H3=>?_);(have i6:=fun x hx=>KM x hx H3.fr))|(show wO _ _ _ _ _ _ _;first|refine Z3 3 Jx ?_|refine Z3 6 Jy ?_)|refine CALL.pR (JW (SA[p]'(by omega)) (SB[q]'(by omega)) (col (SA[p]'(by omega))) (col (SB[q]'(by omega))) (vl (SA[p]'(by omega))) (vl (SB[q]'(by omega))) (sg (SA[p]'(by omega))) (sg (SB[q]'(by omega))) (gE _) (gE _) (jm _) (jm _)) (fun η' w' H'=>⟨(let⟨en,h⟩:=i6 _ (lQ _ (zm (by omega)));⟨en,h.now H'.fr (fun k h=>h)⟩),(let⟨en,h⟩:=i6 _ (lR _ (zm (by omega)));⟨en,h.now H'.fr (fun k h=>h)⟩)⟩) rfl rfl ?_|refine wm.mk (Zm 40 rfl rfl rfl (by simp) (by omega)) ?_|refine GET.at (gA (by omega)) ?_|refine GET.at (gB (by omega)) ?_|refine wm.mk ⟨by omega,by omega⟩ ?_|refine AU ?_|refine IW ?_ ?_<;>intro h<;>try omega)<;>conv=>whnf
      .refine⟨(out++ [SA[p]'(by omega)],p+1,q),⟨by dsimp only;omega,by dsimp only;omega,by dsimp only;rw[zg,List.length_singleton];omega,Xz (p:=p) (q:=q) (by omega) (.inr ⟨by omega,by unfold eT;assumption⟩) hr⟩,by dsimp only;omega,?_⟩;dsimp only;conv=>whnf
       exact w5.kA h0 [1,4]
      .refine⟨(out++ [SB[q]'(by omega)],p,q+1),⟨by dsimp only;omega,by dsimp only;omega,by dsimp only;rw[zg,List.length_singleton];omega,XA (p:=p) (q:=q) (by omega) (.inr ⟨by omega,by unfold eT;omega⟩) hr⟩,by dsimp only;omega,?_⟩;dsimp only;conv=>whnf
       exact w5.kA h0 [1,4]
     .repeat'(first|(show wO _ _ _ _ _ _ _;first|refine Z3 3 Jx ?_|refine Z3 6 Jy ?_)|refine wm.mk (Zm 40 rfl rfl rfl (by simp) (by omega)) ?_|refine GET.at (gA (by omega)) ?_|refine wm.mk ⟨by omega,by omega⟩ ?_|refine AU ?_|refine IW ?_ ?_<;>intro h<;>try omega)<;>conv=>whnf
      refine⟨(out++ [SA[p]'(by omega)],p+1,q),⟨by dsimp only;omega,by dsimp only;omega,by dsimp only;rw[zg,List.length_singleton];omega,Xz (p:=p) (q:=q) (by omega) (.inl (by omega)) hr⟩,by dsimp only;omega,?_⟩;dsimp only;conv=>whnf
      exact w5.kA h0 [1,4]
    .by_cases lP:q<n-n/2
     .have gB:=fun{m:Nat}=>gB (p:=q) (m:=m) (by omega);repeat'(first|(show wO _ _ _ _ _ _ _;first|refine Z3 3 Jx ?_|refine Z3 6 Jy ?_)|refine wm.mk (Zm 40 rfl rfl rfl (by simp) (by omega)) ?_|refine GET.at (gB (by omega)) ?_|refine wm.mk ⟨by omega,by omega⟩ ?_|refine AU ?_|refine IW ?_ ?_<;>intro h<;>try omega)<;>conv=>whnf
      refine⟨(out++ [SB[q]'(by omega)],p,q+1),⟨by dsimp only;omega,by dsimp only;omega,by dsimp only;rw[zg,List.length_singleton];omega,XA (p:=p) (q:=q) (by omega) (.inl (by omega)) hr⟩,by dsimp only;omega,?_⟩;dsimp only;conv=>whnf
      exact w5.kA h0 [1,4]
     .have gl:=KJ (by omega) (by omega) hr;have od:out.length=n:=by omega
      repeat'(first|refine IW ?_ ?_<;>intro h<;>try omega)<;>conv=>whnf
      rw[od,gl];exact wh.aA h0 [2] (.sl (.loc 1) 0 3 n none) [(1, .rows 3 (T.map (X1 col vl)))] (.inr ⟨by omega,T,lS,tZ,rfl,rfl,rfl⟩)
  .conv=>whnf
   repeat'(first|(refine qJ.tw (fun η2 w2 H2=>?_);(have FZ:=fun x hx=>KM x hx H2.fr)))<;>conv=>whnf
   refine CALL.Ky [0] h2 (fun η' w' H' x hx=>let⟨en,h⟩:=FZ x hx;⟨en,h.now H'.fr (fun k h=>h)⟩) rfl (fun i hi=>by simp at hi;omega) rfl rfl (fun p hp=>by cases hp) (fun j hj=>by cases hj) (fun p hp=>by
    obtain rfl:=zL.1 hp
    exact⟨by show 0<1;omega,by rw[Zu _ (h:= .rows _ _) (UQ col vl L)];rfl,Yj _ (h:= .rows _ _) (UQ col vl L),by simp[Zd]⟩) ?_
   rintro r O nx (⟨g2,rfl,rfl,rfl⟩|⟨g2,oB,pB,sB,rfl,rfl,rfl⟩);exfalso;omega
   .conv=>whnf
    skip
    obtain⟨SA,tY⟩:∃S,S=oA:=⟨_,rfl⟩;rw[<-tY]at pA sA⊢;have sM:SA.length=n/2:=by rw[pA.length_eq,zu,zF];omega
    have gA:∀{p m:Nat} (h:p<SA.length),m=0+p->(SA.map (X1 col vl))[m]?=some (X1 col vl SA[p]):=fun h e=>gN h e;obtain⟨SB,QS⟩:∃S,S=oB:=⟨_,rfl⟩;rw[<-QS]at pB sB⊢;have sN:SB.length=n-n/2:=by rw[pB.length_eq,zu,zF];omega
    have gB:∀{p m:Nat} (h:p<SB.length),m=0+p->(SB.map (X1 col vl))[m]?=some (X1 col vl SB[p]):=fun h e=>gN h e;have lQ:=nI pA;have lR:=nI pB;have hT:([]:List Nat)++gq (eT col sg) (SA.drop 0) (SB.drop 0)=gq (eT col sg) SA SB:=rfl;have tZ:=Um hpre _ SA SB (zo _) sA sB;have lS:=OV SA SB pA pB;generalize gq (eT col sg) SA SB=T at hT tZ lS;have OM:T.length=n:=by rw[lS.length_eq,zu,zF];omega
    refine wj.nil 5 3 rfl ?_
    refine wj.jD Z0 [] [] (X:=List Nat×Nat×Nat) (fun x=>x.2.1<=n/2/\x.2.2<=n-n/2/\x.1.length=x.2.1+x.2.2/\x.1++gq (eT col sg) (SA.drop x.2.1) (SB.drop x.2.2)=T)
     (fun x=>[(3, .sl (.loc 1) (0+x.2.1) 3 (n/2-x.2.1) none),(4, .sl (.loc 2) (0+x.2.2) 3 (n-n/2-x.2.2) none),(5, .sl (.loc 3) 0 3 x.1.length none)]) (fun x=>[(1, .rows 3 (SA.map (X1 col vl))),(2, .rows 3 (SB.map (X1 col vl))),(3, .rows 3 (x.1.map (X1 col vl)))]) 4 (fun x=>(n/2-x.2.1)+(n-n/2-x.2.2)) ([],0,0) ⟨by simp,by simp,by simp,hT⟩ ?_
    conv=>whnf
    refine⟨by exact w5.kA h0 [1,2,3],?_⟩;rintro⟨out,p,q⟩ ⟨hp,hq,ho,hr⟩;dsimp only at hp hq ho hr⊢;have gp:out.length<=2097152:=by omega
    conv=>whnf
    by_cases oP:p<n/2
    .have gA:=fun{m:Nat}=>gA (p:=p) (m:=m) (by omega);by_cases lP:q<n-n/2
     .have gB:=fun{m:Nat}=>gB (p:=q) (m:=m) (by omega);repeat'(first|(refine qJ.tw (fun η3 w3 H3=>?_);(have i6:=fun x hx=>KM x hx H3.fr))|(show wO _ _ _ _ _ _ _;first|refine Z3 3 Jx ?_|refine Z3 6 Jy ?_)|refine CALL.pR (JW (SA[p]'(by omega)) (SB[q]'(by omega)) (col (SA[p]'(by omega))) (col (SB[q]'(by omega))) (vl (SA[p]'(by omega))) (vl (SB[q]'(by omega))) (sg (SA[p]'(by omega))) (sg (SB[q]'(by omega))) (gE _) (gE _) (jm _) (jm _)) (fun η' w' H'=>⟨(let⟨en,h⟩:=i6 _ (lQ _ (zm (by omega)));⟨en,h.now H'.fr (fun k h=>h)⟩),(let⟨en,h⟩:=i6 _ (lR _ (zm (by omega)));⟨en,h.now H'.fr (fun k h=>h)⟩)⟩) rfl rfl ?_|refine wm.mk (Zm 40 rfl rfl rfl (by simp) (by omega)) ?_|refine GET.at (gA (by omega)) ?_|refine GET.at (gB (by omega)) ?_|refine wm.mk ⟨by omega,by omega⟩ ?_|refine AU ?_|refine IW ?_ ?_<;>intro h<;>try omega)<;>conv=>whnf
      .refine⟨(out++ [SA[p]'(by omega)],p+1,q),⟨by dsimp only;omega,by dsimp only;omega,by dsimp only;rw[zg,List.length_singleton];omega,Xz (p:=p) (q:=q) (by omega) (.inr ⟨by omega,by unfold eT;assumption⟩) hr⟩,by dsimp only;omega,?_⟩;dsimp only;conv=>whnf
       exact w5.kA h0 [1,2,5]
      .refine⟨(out++ [SB[q]'(by omega)],p,q+1),⟨by dsimp only;omega,by dsimp only;omega,by dsimp only;rw[zg,List.length_singleton];omega,XA (p:=p) (q:=q) (by omega) (.inr ⟨by omega,by unfold eT;omega⟩) hr⟩,by dsimp only;omega,?_⟩;dsimp only;conv=>whnf
       exact w5.kA h0 [1,2,5]
     .repeat'(first|(show wO _ _ _ _ _ _ _;first|refine Z3 3 Jx ?_|refine Z3 6 Jy ?_)|refine wm.mk (Zm 40 rfl rfl rfl (by simp) (by omega)) ?_|refine GET.at (gA (by omega)) ?_|refine wm.mk ⟨by omega,by omega⟩ ?_|refine AU ?_|refine IW ?_ ?_<;>intro h<;>try omega)<;>conv=>whnf
      refine⟨(out++ [SA[p]'(by omega)],p+1,q),⟨by dsimp only;omega,by dsimp only;omega,by dsimp only;rw[zg,List.length_singleton];omega,Xz (p:=p) (q:=q) (by omega) (.inl (by omega)) hr⟩,by dsimp only;omega,?_⟩;dsimp only;conv=>whnf
      exact w5.kA h0 [1,2,5]
    .by_cases lP:q<n-n/2
     .have gB:=fun{m:Nat}=>gB (p:=q) (m:=m) (by omega);repeat'(first|(show wO _ _ _ _ _ _ _;first|refine Z3 3 Jx ?_|refine Z3 6 Jy ?_)|refine wm.mk (Zm 40 rfl rfl rfl (by simp) (by omega)) ?_|refine GET.at (gB (by omega)) ?_|refine wm.mk ⟨by omega,by omega⟩ ?_|refine AU ?_|refine IW ?_ ?_<;>intro h<;>try omega)<;>conv=>whnf
      refine⟨(out++ [SB[q]'(by omega)],p,q+1),⟨by dsimp only;omega,by dsimp only;omega,by dsimp only;rw[zg,List.length_singleton];omega,XA (p:=p) (q:=q) (by omega) (.inl (by omega)) hr⟩,by dsimp only;omega,?_⟩;dsimp only;conv=>whnf
      exact w5.kA h0 [1,2,5]
     .have gl:=KJ (by omega) (by omega) hr;have od:out.length=n:=by omega
      repeat'(first|refine IW ?_ ?_<;>intro h<;>try omega)<;>conv=>whnf
      rw[od,gl];exact wh.aA h0 [3] (.sl (.loc 1) 0 3 n none) [(1, .rows 3 (T.map (X1 col vl)))] (.inr ⟨by omega,T,lS,tZ,rfl,rfl,rfl⟩)
open _root_.Go.Proofs.Tryz
def ZgA:wP:=(Zr [(0,1),(1,1),(2,1),(4,1),(5,1),(6,1),(8,1),(11,1),(3,2),(7,2),(9,1),(10,2),(12,1),(13,2),(14,1),(15,2),(16,3),(17,0)])
def ZgB:wP:=(Zr [(0,1),(1,1),(2,1),(4,1),(5,1),(7,1),(9,1),(10,1),(12,1),(13,1),(15,1),(16,1),(18,1),(19,1),(3,2),(8,2),(11,2),(17,2),(6,3),(14,3),(20,3),(21,1),(22,3),(23,0),(24,1)])
theorem Zbd(A:List LB)(l z:List Qd)(lim ll:Option Nat)(cl:List Int)(x:Nat)(hx:x<A.length)(gm:cl.length=A.length)(bD:A.length<=4096)(hl:l.length<=1048576)(hnd:A.Nodup)(hmem:∀s∈ZE l,s∈A)(jm:∀c∈cl,0<=c/\c<10000)(hpk:∀q∈l, ¬q.p.k=2)(hz:(l++z).length<=1152921504606846976):
 uX prog wD 66 7 [.ptr (.loc 0) 0 0 0, .int .i64 (x:Int), .sl (.loc 4) 0 1 A.length none] [] [(0,FV l.length lim A.length ll none),(1, .rows 16 ((l++z).map Z4)),(2, .mp (kU (Xt 0 A A.length))),(3, .rows 1 (JR A.length x (.sl (.loc 6) 0 1 (au A l x).length none))),(4, .rows 1 (cl.map Zg)),(6, .rows 1 ((au A l x).map Yf))]
 (fun r O nx=>r= .sl (.loc 7) 0 16 (Yu A l cl x).length none/\O=[(7, .rows 16 ((Yu A l cl x).map Z4))]/\nx=8):=by
 have gX:∀{m:Nat} {sv:SV},m=x->(JR A.length x sv)[m]?=some [sv]:=fun e=>by subst e;unfold JR;rw[z6,yG hx];simp
 have O8:(au A l x).length<=1048576:=by rw[<-AX];exact zP (D1 ..) hl
 have QH:∀k∈au A l x,k<l.length:=fun k hk=>D6 hk;obtain⟨V,hV⟩:∃V,V=tG A l cl x:=⟨_,rfl⟩;have QI:V.length=(au A l x).length:=by rw[hV];unfold tG;rw[zA]
 have OX:Yu A l cl x=dy V:=by rw[hV];rfl
 refine uX.enter Z0 call66 func66 rfl 64 rfl rfl [.tmp 6] rfl ?_;intro w0 F η0 h0;conv=>whnf
 obtain⟨L,hL⟩:∃L,L=au A l x:=⟨_,rfl⟩;rw[<-hL]at O8 QH QI⊢
 have FK:∀i (h:i<L.length),V[i]'(by omega)=s8 A cl x (l[L[i]]'(QH _ (zm h))):=fun i h=>by
  subst hV hL;unfold tG;rw[yz,zl,z1 (D6 (zm h))];rfl
 refine wj.nil 7 16 rfl ?_;refine wj.jD Z0 [0,1,2] [] (X:=Nat) (fun i=>i<=L.length) (fun i=>[(8, .int .i64 (i:Int)),(7, .sl (.loc 7) 0 16 i none)]) (fun i=>[(7, .rows 16 ((V.take i).map Z4))]) 8 (fun i=>L.length-i) 0 (by omega) ?_;conv=>whnf
 refine⟨by exact w5.kA h0 [7],?_⟩;intro i hi;have QJ:(V.take i).length=i:=by rw[zu];omega
 conv=>whnf
 by_cases hil:i<L.length
 .have hk:=QH _ (zm hil);obtain⟨q,hq⟩:∃q,q=l[L[i]]:=⟨_,rfl⟩;have FL:=FK i hil;rw[<-hq]at FL;have bE:∀s∈Zx q,s∈A:=fun s hs=>hmem s (xB.2 ⟨q,by rw[hq];exact zm hk,hs⟩);have hqp:¬q.p.k=2:=hpk q (by rw[hq];exact zm hk);have gL:∀{m:Nat},m=i->(L.map Yf)[m]?=some (Yf L[i]):=fun e=>by subst e;rw[z6,z1 hil];rfl
  have gQ:∀{m:Nat},m=L[i]->((l++z).map Z4)[m]?=some (Z4 q):=fun e=>by subst e;rw[hq,z6,zn hk,z1 hk];rfl
  have hto:(V.take (i+1))=V.take i++ [s8 A cl x q]:=by rw[zH (by omega),FL]
  have sS:=OG A l.length lim ll none cl x q.s gm bD hnd (fun h=>bE _ (by unfold Zx ZS;simp[h])) jm hx;have sO:=OG A l.length lim ll none cl x q.o gm bD hnd (fun h=>bE _ (by unfold Zx ZS;simp[h])) jm hx;have sG:=OG A l.length lim ll none cl x q.g gm bD hnd (fun h=>bE _ (by unfold Zx ZS;simp[h])) jm hx;generalize V.take i=W at QJ hto⊢;clear FK hV;repeat'(first|(show wO _ _ _ _ _ _ _;first|refine Z3 5 ZgA ?_)|refine qJ.mk (fun _ _=>?_)|refine AD ?_|refine GET.at (gX (by omega)) ?_|refine GET.at (gL (by omega)) ?_|refine GET.at (gQ (by omega)) ?_|refine AU ?_|refine IW ?_ ?_<;>intro h<;>try omega)<;>conv=>whnf
  have H8:s8 A cl x q=⟨Xr A cl x q.s,q.p,Xr A cl x q.o,Xr A cl x q.g⟩:=by unfold s8;rw[O7 hqp]
  repeat'(first|(show wO _ _ _ _ _ _ _;first|refine Z3 6 ZgB ?_)|refine qJ.mk (fun _ _=>?_)|refine CALL.looks [0,1,2,3,4,5] sS rfl rfl rfl rfl ⟨⟨rfl,rfl,rfl⟩,XS rfl rfl (ET _),XS rfl rfl (Vx _),trivial⟩ ?_|refine CALL.looks [0,1,2,3,4,5] sO rfl rfl rfl rfl ⟨⟨rfl,rfl,rfl⟩,XS rfl rfl (ET _),XS rfl rfl (Vx _),trivial⟩ ?_|refine CALL.looks [0,1,2,3,4,5] sG rfl rfl rfl rfl ⟨⟨rfl,rfl,rfl⟩,XS rfl rfl (ET _),XS rfl rfl (Vx _),trivial⟩ ?_|refine wm.mk (Zm 224 rfl rfl rfl (by simp;omega) (by omega)) ?_)<;>conv=>whnf
  have htk:List.take i (W.map Z4)=W.map Z4:=zi (by rw[zA];omega);rw[htk];refine⟨i+1,by omega,by omega,?_⟩;rw[hto,H8];conv=>whnf
  exact w5.kA h0 [10]
 .have hie:i=L.length:=by omega
  subst hie;have hs:=Z9N V (by omega) V.length V.length 0 (zo _) (by omega);rw[yD,zX,<-OX,QI]at hs;rw[show V.take L.length=V from zi (by omega)];have gE:(Yu A l cl x).length=L.length:=by rw[OX,yw,QI]
  repeat'(first|refine GET.at (gX (by omega)) ?_|refine AU ?_|refine IW ?_ ?_<;>intro h<;>try omega)<;>conv=>whnf
  refine CALL.aA [7] (hs) ?_;rintro r O nx (⟨g1,rfl,rfl,rfl⟩|⟨g1,rfl,rfl,rfl⟩)
  .conv=>whnf
   skip
   have hshort:Yu A l cl x=V:=by rw[OX];exact OJ (by omega)
   rw[hshort]at gE⊢;rw[gE];exact wh.aA h0 [7] (.sl (.loc 7) 0 16 L.length none) [(7, .rows 16 (V.map Z4))] ⟨rfl,rfl,rfl⟩
  .conv=>whnf
   skip
   rw[gE];exact wh.aA h0 [8] (.sl (.loc 7) 0 16 L.length none) [(7, .rows 16 ((Yu A l cl x).map Z4))] ⟨rfl,rfl,rfl⟩
