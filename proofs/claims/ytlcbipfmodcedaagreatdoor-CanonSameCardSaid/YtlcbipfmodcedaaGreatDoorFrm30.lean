/- Part 30: Can2, Can3, Can4. Conditions: as each part says. -/
import Derived.Test.YtlcbipfmodcedaaGreatDoorFrm29
set_option linter.unusedVariables false
set_option linter.unusedSimpArgs false
set_option maxRecDepth 20000
set_option maxHeartbeats 8000000
namespace Go.Proofs.YtlcbipfmodcedaaGreatDoor
open Go.Sx Go.Our
open _root_.Go.Proofs.Tryz
def ZiA:uu:=(Zs [(1,1),(5,1),(10,1),(14,1),(0,2),(2,1),(3,2),(4,2),(6,1),(7,2),(9,2),(11,1),(12,2),(13,2),(15,1),(16,2),(8,3),(17,3),(18,3),(19,3),(20,1)])
theorem Zcv{a b:List Qd}{i:Nat}(ha:i<a.length)(hb:i<b.length):Y6 (a.drop i) (b.drop i)=if ZP a[i] b[i]=0 then Y6 (a.drop (i+1)) (b.drop (i+1))else ZP a[i] b[i]:=by
 rw[zm ha,zm hb];rfl
theorem Rj(a b:List Qd)(la lb:Option Nat)(ha:a.length<=1152921504606846976)(hb:b.length<=1152921504606846976):vS prog uf 37 2 [.sl (.loc 0) 0 16 a.length la, .sl (.loc 1) 0 16 b.length lb] [] [(0, .rows 16 (a.map Z3)),(1, .rows 16 (b.map Z3))] (w6 2 (.int .i64 (Y6 a b))):=by
 have hC:vS prog uf 76 2 [.sl (.loc 0) 0 16 a.length la, .sl (.loc 1) 0 16 b.length lb, .fn (.func 47) [] []] [] [(0, .rows 16 (a.map Z3)),(1, .rows 16 (b.map Z3))] (w6 2 (.int .i64 (Y6 a b))):=by
  have gA:∀{i k:Nat} (h:i<a.length),k=i->(a.map Z3)[k]?=some (Z3 a[i]):=fun h e=>by subst e;rw[z6,z1 h];rfl
  have gB:∀{i k:Nat} (h:i<b.length),k=i->(b.map Z3)[k]?=some (Z3 b[i]):=fun h e=>by subst e;rw[z6,z1 h];rfl
  refine vS.enter Z0 call76 func76 rfl 39 rfl rfl [.tmp 6] rfl ?_;intro w0 F η0 h0;conv=>whnf
  skip
  refine vZ.kj Z0 [0,1,2,11,12] [] (X:=Nat) (fun i=>i<=a.length/\i<=b.length/\Y6 a b=Y6 (a.drop i) (b.drop i)) (fun i=>[(13, .int .i64 (i:Int))]) (fun i=>[]) 2 (fun i=>a.length-i) 0 ⟨by omega,by omega,rfl⟩ ?_;conv=>whnf
  refine⟨by exact vU.cA h0,?_⟩;rintro i ⟨hi,hib,he⟩;conv=>whnf
  by_cases l8:i<a.length
  .repeat'(first|refine GET.at (gA l8 (by omega)) ?_|refine AU ?_|refine IW ?_ ?_<;>intro h<;>try omega)<;>conv=>whnf
   .refine u0.ua h0 rfl (z8 (SV.int _) ?_);have:i=b.length:=by omega
    subst this;rw[he,zN (zo _),zm l8];rfl
   have nA:i<b.length:=by omega
   have hd:=Zcv l8 nA;repeat'(first|refine GET.at (gB nA (by omega)) ?_|refine CALL.value (C6 a[i] b[i]) rfl rfl ?_|refine IW ?_ ?_<;>intro h<;>try omega)<;>conv=>whnf
   exact u0.ua h0 rfl (z8 (SV.int _) (by rw[he,hd,z7 ‹_›]))
   .refine⟨i+1,⟨by omega,by omega,by rw[he,hd,zf ‹_›]⟩,by omega,?_⟩;conv=>whnf
    exact vU.cA h0
  .have hie:i=a.length:=by omega
   subst hie;repeat'(first|refine IW ?_ ?_<;>intro h<;>try omega)<;>conv=>whnf
   .refine u0.ua h0 rfl (z8 (SV.int _) ?_);have h2:a.length<b.length:=by omega
    rw[he,zN (zo _),zm h2];rfl
   .refine u0.ua h0 rfl (z8 (SV.int _) ?_);rw[he,zN (zo _),zN (by omega)];rfl
 refine vS.enter Z0 call37 func37 rfl 8 rfl rfl [.tmp 4] rfl ?_;intro w0 F η0 h0;conv=>whnf
 skip
 refine CALL.aA [0,1] (hC) ?_;rintro r O nx ⟨rfl,rfl,rfl⟩;conv=>whnf
 skip
 exact u0.ua h0 rfl rfl
theorem Zgq{C:Cx}{O:vX}{nx y:Nat}{h g:Hp}(hy:y≠nx)(h1:Yn C O (.loc y)=some g):Yn {C with S:=(.loc nx,h)::C.S} O (.loc y)=some g:=by
 simp only[Yn]at h1⊢;split
 rename_i h2;rw[h2]at h1;exact h1
 .rename_i h2;rw[h2]at h1;have:Nat.beq y nx=false:=by rw[<-Bool.not_eq_true];intro h3;exact hy (Nat.eq_of_beq_eq_true h3)
  simp only[qv,bA,this];exact h1
theorem Rk{C:Cx}{O:vX}{nx:Nat}{h:Hp}(hO:u5 nx O=none):Yn {C with S:=(.loc nx,h)::C.S} O (.loc nx)=some h:=by
 simp only[Yn,hO,qv,bA,Nat.beq_refl]
theorem CALL.rG{M:Mx}{f:FuncId}{O:vX}{nx es:Nat}{K:SV->vX->Nat->Prop}{u v:Value}{rs qs:List (List SV)}{en cu:Option wZ}{r:SV}(hu:uL M.w0 u es rs en)(hv:uL M.w0 v es qs cu)(hF:∀k, ¬M.F k)(hO:u5 nx O=none)(hO1:u5 (nx+1) O=none)
 (sp:vS M.P M.C.T f 2 [.sl (.loc 0) 0 es rs.length none, .sl (.loc 1) 0 es qs.length none] [] [(0, .rows es rs),(1, .rows es qs)] (w6 2 r)) (jM:Zj rs=true) (F1:Zj qs=true) (hr:plain r=true) (hK:K r O (nx+1+1)):CALL M f [.val u, .val v] O nx K:=by
 refine CALL.G4 [] [.val v] hu hF rfl (fun η1=>?_);refine CALL.G4 (M:=⟨M.P,{M.C with S:=(.loc nx, .rows es rs)::M.C.S},M.w0,M.F,η1,none⟩) [.sl (.loc nx) 0 es rs.length none] [] hv hF rfl (fun η2=>?_);refine CALL.looks [nx,nx+1] sp rfl (by simp[yR];omega) rfl rfl ⟨⟨rfl,?_,Yi jM⟩,⟨rfl,?_,Yi F1⟩,trivial⟩ (by rw[X8 _ hr];exact hK)
 .rw[Zv _ (h:= .rows es rs) jM];exact Zgq (Nat.ne_of_lt (Nat.lt_succ_self _)) (Rk hO)
 .rw[Zv _ (h:= .rows es qs) F1];exact Rk hO1
def tS(v:Value):List SV:=[.val v]
instance :dZ tS:=⟨fun _=>rfl⟩
theorem or2(a b:Int):aF [a,b]=if a=0 then b else a:=by
 simp only[aF];by_cases h:a=0
 subst h;by_cases h2:b=0<;>simp[h2];simp[h]
theorem Z8G(A:List LB)(l:List Qd)(cl:List Int)(vs:List Value)(a b:Nat)(ha:a<cl.length)(hb:b<cl.length)(hvl:vs.length=cl.length)(hl:∀x,(Yo A l cl x).length<=1152921504606846976):
 fR (fun w=> ∀x (h:x<vs.length),∃en,uL w vs[x] 16 ((Yo A l cl x).map Z3) en) prog uf 103 4 [.int .i64 (a:Int), .int .i64 (b:Int), .ptr (.loc 0) 0 0 0, .ptr (.loc 1) 0 0 0] [] [(0, .box [.sl (.loc 2) 0 1 cl.length none]),(1, .box [.sl (.loc 3) 0 1 cl.length none]),(2, .rows 1 (cl.map Zg)),(3, .rows 1 (vs.map tS))] (w6 4 (.int .i64 (UH A l cl a b))):=by
 have gC:∀{i k:Nat} (h:i<cl.length),k=i->(cl.map Zg)[k]?=some (Zg cl[i]):=fun h e=>by subst e;rw[z6,z1 h];rfl
 have gV:∀{i k:Nat} (h:i<vs.length),k=i->(vs.map tS)[k]?=some (tS vs[i]):=fun h e=>by subst e;rw[z6,z1 h];rfl
 refine vS.gl Z0 call103 func103 rfl 27 rfl rfl [.tmp 6] rfl ?_;intro w0 F η0 h0 hG hF;conv=>whnf
 have hno:∀k, ¬F k:=fun k h=>by rw[hF]at h;simp[Ym,u5]at h
 obtain⟨ea,hU⟩:=hG a (by omega);obtain⟨eb,hV⟩:=hG b (by omega);repeat'(first|refine GET.at (gC ha (by omega)) ?_|refine GET.at (gC hb (by omega)) ?_|refine GET.at (gV (i:=a) (by omega) (by omega)) ?_|refine GET.at (gV (i:=b) (by omega) (by omega)) ?_|(refine wh.r5 (fun η1 w1 H1=>?_);(have hu1:=hU.now H1.fr hno);(have hv1:=hV.now H1.fr hno))|refine CALL.value (Mt cl[a] cl[b]) rfl rfl ?_|(show uq _ _ _ _ _ _ _;first|refine Z4 1 ZiA ?_)|refine AD ?_|refine AU ?_)<;>conv=>whnf
 have hls:=Rj (Yo A l cl a) (Yo A l cl b) none none (hl a) (hl b);rw[show(Yo A l cl a).length=((Yo A l cl a).map Z3).length from(zy ..).symm,show(Yo A l cl b).length=((Yo A l cl b).map Z3).length from(zy ..).symm]at hls;refine CALL.rG hu1 hv1 (fun k h=>h) rfl rfl hls (Zo _) (Zo _) rfl ?_;conv=>whnf
 repeat'(first|refine CALL.looks [6] (C5 [uY cl[a] cl[b],Y6 (Yo A l cl a) (Yo A l cl b)] (by simp)) rfl rfl rfl rfl ⟨⟨rfl,rfl,rfl⟩,trivial⟩ ?_|refine wh.mk (fun _ _=>?_))<;>conv=>whnf
 refine u0.ua h0 rfl (z8 (SV.int _) ?_);unfold UH;rw[or2,zl,zl,z1 ha,z1 hb];rfl
end Go.Proofs.YtlcbipfmodcedaaGreatDoor
namespace Go.Proofs.YtlcbipfmodcedaaGreatDoor
open Go.Sx Go.Our
open _root_.Go.Proofs.Tryz
def ZiB:uu:=(Zs [(0,1),(1,1),(2,1),(4,1),(5,1),(6,1),(3,2),(7,2),(8,3),(9,1)])
def bU(A:List LB)(cl:List Int)(x:Nat)(q:Qd)(j:Nat):Qd:=⟨if 0<j then Xo A cl x q.s else q.s,if 1<j then Xo A cl x q.p else q.p,if 2<j then Xo A cl x q.o else q.o,if 3<j then Xo A cl x q.g else q.g⟩
theorem ZiC(A:List LB)(cl:List Int)(x:Nat)(q:Qd):bU A cl x q 0=q:=rfl
theorem ZiD(A:List LB)(cl:List Int)(x:Nat)(q:Qd):bU A cl x q 4=mO A cl x q:=rfl
def Ga(n:Nat)(lim:Option Nat)(nl:Nat):Hp:= .box [.sl (.loc 1) 0 16 n lim, .sl (.loc 5) 0 1 nl (some nl), .mp (.loc 2), .sl (.loc 3) 0 1 nl none]
theorem HB{A:List LB}{l:List Qd}{x k:Nat}(h:k∈cc A l x):k<l.length:=yj.1 (List.mem_filter.1 h).1
theorem Bo{A:List LB}{cl:List Int}{x:Nat}{t:Tm}(h:¬t.k=2):Xo A cl x t=t:=z7 h
theorem Rm{A:List LB}{cl:List Int}{x:Nat}{t:Tm}(h:t.k=2)(hx:A.idxOf t.t=x):Xo A cl x t=⟨t.k,[120],t.y,t.l⟩:=by unfold Xo;rw[zf h,zf hx]
theorem Rn{A:List LB}{cl:List Int}{x:Nat}{t:Tm}(h:t.k=2)(hx:¬A.idxOf t.t=x):Xo A cl x t=⟨t.k,o8 (cl.getD (A.idxOf t.t) 0).toNat,t.y,t.l⟩:=by unfold Xo;rw[zf h,z7 hx]
theorem ZeP{I:List (List Nat)}{i k n:Nat}{sv:SV}(h:i<I.length)(hk:k=i)(hn:n=I[i].length):uB ((wT I).modify k fun row=>row.set 0 (DC.v sv)) i 0 (.uA 1 ((I[i].map Y8).take n))=wT I:=by
 subst hk;exact Rh h rfl hn
theorem ZeQ(A:List LB)(l z:List Qd)(lim:Option Nat)(cl:List Int)(x:Nat)(hx:x<A.length)(ki:cl.length=A.length)(e8:A.length<=4096)(hl:l.length<=1048576)(hnd:A.Nodup)(hmem:∀s∈Zz l,s∈A)(kg:∀c∈cl,0<=c/\c<10000)(hz:(l++z).length<=1152921504606846976):
 vS prog uf 102 6 [.ptr (.loc 0) 0 0 0, .int .i64 (x:Int), .sl (.loc 4) 0 1 A.length none] [(3, .deep false 1 (wT (uQ A l)))] [(0,Ga l.length lim A.length),(1, .rows 16 ((l++z).map Z3)),(2, .mp (qb (Xr 0 A A.length))),(4, .rows 1 (cl.map Zg))]
 (fun r O nx=>r= .sl (.loc 6) 0 16 (Yo A l cl x).length none/\O=[(3, .deep false 1 (wT (uQ A l))),(6, .rows 16 ((Yo A l cl x).map Z3))]/\nx=7):=by
 have Ro:(uQ A l).length=A.length:=by simp[uQ]
 have Gb:x< (uQ A l).length:=by omega
 have hIx:(uQ A l)[x]=cc A l x:=by simp[uQ]
 have l6:=G2 (b:=0) hnd;have Bp:(cc A l x).length<=1048576:=by rw[<-Bf];exact zO (Hw ..) hl
 have tT:∀k∈cc A l x,k<l.length:=fun k hk=>HB hk;obtain⟨V,hV⟩:∃V,V=rz A l cl x:=⟨_,rfl⟩;have tU:V.length=(cc A l x).length:=by rw[hV];unfold rz;rw[zy]
 refine vS.enter Z0 call102 func102 rfl 74 rfl rfl [.tmp 6] rfl ?_;intro w0 F η0 h0;conv=>whnf
 repeat'(first|refine wV.at (Ziz Gb (by omega)) ?_|refine AU ?_)<;>conv=>whnf
 rw[show(List.map Y8 (uQ A l)[x]).length=(cc A l x).length by rw[zy,hIx]];obtain⟨L,hL⟩:∃L,L=cc A l x:=⟨_,rfl⟩;have hrows:(uQ A l)[x].map Y8=L.map Y8:=by rw[hIx,hL]
 rw[hrows];rw[<-hL]at Bp tT tU⊢
 have Gc:∀i (h:i<L.length),V[i]'(by omega)=mO A cl x (l[L[i]]'(tT _ (zk h))):=fun i h=>by
  subst hV hL;unfold rz;rw[yg,zl,z1 (HB (zk h))];rfl
 refine vZ.nil 7 16 rfl ?_;refine vZ.kj Z0 [0,1,2,20,21] [3,6] (X:=Nat) (fun i=>i<=L.length) (fun i=>[(22, .int .i64 (i:Int)),(7, .sl (.loc 7) 0 16 i none)]) (fun i=>[(7, .rows 16 ((V.take i).map Z3))]) 8 (fun i=>L.length-i) 0 (by omega) ?_;conv=>whnf
 refine⟨by exact vU.cA h0,?_⟩;intro i hi;have tV:(V.take i).length=i:=by rw[zq];omega
 conv=>whnf
 by_cases hil:i<L.length
 .have hk:=tT _ (zk hil);obtain⟨q,hq⟩:∃q,q=l[L[i]]:=⟨_,rfl⟩;have Gd:=Gc i hil;rw[<-hq]at Gd;have dr:∀s∈Zw q,s∈A:=fun s hs=>hmem s (xV.2 ⟨q,by rw[hq];exact zk hk,hs⟩);have gL:∀{m:Nat},m=i->(L.map Y8)[m]?=some (Y8 L[i]):=fun e=>by subst e;rw[z6,z1 hil];rfl
  have gQ:∀{m:Nat},m=L[i]->((l++z).map Z3)[m]?=some (Z3 q):=fun e=>by subst e;rw[hq,z6,zn hk,z1 hk];rfl
  have hT:=Re q;have hto:(V.take (i+1))=V.take i++ [mO A cl x q]:=by rw[zH (by omega),Gd]
  generalize V.take i=W at tV hto⊢;clear Gc hIx hV;repeat'(first|refine GET.at (gL (by omega)) ?_|refine GET.at (gQ (by omega)) ?_|refine AU ?_|refine IW ?_ ?_<;>intro h<;>try omega)<;>conv=>whnf
  refine CALL.aA [8] (hT) ?_;rintro r O nx ⟨rfl,rfl,rfl⟩;conv=>whnf
  skip
  refine vZ.kj Z0 [0,1,2,7,10,20,21,22,33] [3,6,7] (X:=Nat) (fun j=>j<=4) (fun j=>[(34, .int .i64 (j:Int))]) (fun j=>[(8, .box (Z3 (bU A cl x q j)))]) 9 (fun j=>4-j) 0 (by omega) ?_;conv=>whnf
  refine⟨by rw[ZiC];exact vU.cA h0,?_⟩;intro j hj;conv=>whnf
  by_cases tD:j<4
  .have Bq:j=0\/j=1\/j=2\/j=3:=by omega
   obtain⟨X,hX⟩:∃X,X=j:=⟨_,rfl⟩;rcases Bq with rfl|rfl|rfl|rfl
   all_goals rw[<-hX]at tD
   all_goals first
    |(rw[show bU A cl x q 0=⟨q.s,q.p,q.o,q.g⟩from rfl];obtain⟨t,ht,hsub,Q5⟩:∃t,t=q.s/\(t.k=2->t.t∈A)/\∀u,Xo A cl x t=u->bU A cl x q (X+1)=⟨u,q.p,q.o,q.g⟩:=⟨_,rfl,fun h2=>dr _ (by unfold Zw Y0;simp[h2]),fun u hu=>by subst hX;unfold bU;simp[hu]⟩)
    |(rw[show bU A cl x q 1=⟨Xo A cl x q.s,q.p,q.o,q.g⟩from rfl];obtain⟨t,ht,hsub,Q5⟩:∃t,t=q.p/\(t.k=2->t.t∈A)/\∀u,Xo A cl x t=u->bU A cl x q (X+1)=⟨Xo A cl x q.s,u,q.o,q.g⟩:=⟨_,rfl,fun h2=>dr _ (by unfold Zw Y0;simp[h2]),fun u hu=>by subst hX;unfold bU;simp[hu]⟩)
    |(rw[show bU A cl x q 2=⟨Xo A cl x q.s,Xo A cl x q.p,q.o,q.g⟩from rfl];obtain⟨t,ht,hsub,Q5⟩:∃t,t=q.o/\(t.k=2->t.t∈A)/\∀u,Xo A cl x t=u->bU A cl x q (X+1)=⟨Xo A cl x q.s,Xo A cl x q.p,u,q.g⟩:=⟨_,rfl,fun h2=>dr _ (by unfold Zw Y0;simp[h2]),fun u hu=>by subst hX;unfold bU;simp[hu]⟩)
    |(rw[show bU A cl x q 3=⟨Xo A cl x q.s,Xo A cl x q.p,Xo A cl x q.o,q.g⟩from rfl];obtain⟨t,ht,hsub,Q5⟩:∃t,t=q.g/\(t.k=2->t.t∈A)/\∀u,Xo A cl x t=u->bU A cl x q (X+1)=⟨Xo A cl x q.s,Xo A cl x q.p,Xo A cl x q.o,u⟩:=⟨_,rfl,fun h2=>dr _ (by unfold Zw Y0;simp[h2]),fun u hu=>by subst hX;unfold bU;simp[hu]⟩)
   all_goals
    repeat'(first|refine u6.mk ⟨by omega,by omega,rfl⟩ ?_|refine GET.at (row:=_) rfl ?_|(show uq _ _ _ _ _ _ _;first|refine Z4 10 ZiB ?_)|refine wh.mk (fun _ _=>?_)|refine AD ?_|refine qz.mk ?_ ?_|refine AU ?_|refine IW ?_ ?_<;>intro h<;>try omega)<;>conv=>whnf
    .refine⟨X+1,by omega,by omega,?_⟩;rw[Q5 _ (Bo (by rw[ht];assumption)),ht];conv=>whnf
     exact vU.cA h0
    have h2:t.k=2:=by rw[ht];exact h
    have bT:t.t∈A:=hsub h2;have qc:=y7 bT;have og:A[A.idxOf t.t]=t.t:=yI qc;have bf:oJ 0 A t.t=((A.idxOf t.t:Nat):Int):=by unfold oJ;rw[zf bT];omega
    refine u6.mk ⟨KT.ok _,JR KT jC _⟩ ?_;rw[<-ht];refine eu.A KT jC t.t (Xr 0 A A.length) (fun i v hf=>?_) (fun hf=>?_)
    rotate_left
    .have hg:=tQ (b:=0) hnd A.length t.t (zo _);rw[Uq hf,yp qc]at hg;cases hg
    have hv:=G1 hf;rw[l6,bf]at hv;subst hv;obtain⟨n0,hn0⟩:∃n0,n0=A.idxOf t.t:=⟨_,rfl⟩;rw[<-hn0]at qc⊢
    have gC:∀{m:Nat},m=n0->(cl.map Zg)[m]?=some (Zg ((cl[n0]'(by omega)).toNat:Int)):=fun{m} e=>by
     rw[e,z6,z1 (by omega)];have:=(kg _ (zk (show n0<cl.length by omega))).1;rw[vE this];rfl
    have hcb:=kg _ (zk (show n0<cl.length by omega));have tW:=Z9U (cl[n0]'(by omega)).toNat (by omega);clear dr gL gQ hf;conv=>whnf
    repeat'(first|refine GET.at (gC (by omega)) ?_|refine CALL.value (tW) rfl rfl ?_|refine AU ?_|refine IW ?_ ?_<;>intro h<;>try omega)<;>conv=>whnf
    .refine⟨X+1,by omega,by omega,?_⟩;rw[Q5 _ (Rm h2 (show A.idxOf t.t=x by omega))];conv=>whnf
     exact vU.cA h0
    .refine⟨X+1,by omega,by omega,?_⟩;have hne:¬A.idxOf t.t=x:=by omega
     have fe:=Rn (cl:=cl) h2 hne;rw[<-hn0,zl,z1 (show n0<cl.length by omega),Option.getD_some]at fe;rw[Q5 _ fe];conv=>whnf
     exact vU.cA h0
  .have tD:j=4:=by omega
   subst tD;rw[ZiD];repeat'(first|refine u6.mk (Zn 224 rfl rfl (by simp) (by simp;omega) (by omega)) ?_|refine AU ?_|refine IW ?_ ?_<;>intro h<;>try omega)<;>conv=>whnf
   all_goals
    rw[Zka W (mO A cl x q) tV.symm,<-hto];refine⟨i+1,by omega,by omega,?_⟩;conv=>whnf
    exact vU.kA h0 [6,10]
 .have hie:i=L.length:=by omega
  subst hie;rw[zg (by omega)];have Rp:=ME V (by omega);rw[tU]at Rp;repeat'(first|refine AU ?_|refine IW ?_ ?_<;>intro h<;>try omega)<;>conv=>whnf
  refine CALL.aA [7] (Rp) ?_;rintro r O nx ⟨rfl,rfl,rfl⟩;conv=>whnf
  repeat'(first|refine AU ?_|refine IW ?_ ?_<;>intro h<;>try omega)<;>conv=>whnf
  have eT:Yo A l cl x=V.mergeSort (q9 ZP):=by unfold Yo;rw[hV]
  have kL:(Yo A l cl x).length=L.length:=by rw[eT,yt,tU]
  rw[<-eT,<-hrows];refine uT.fin (uT.fI 3 x 0 6 rfl (Rc Gb (by omega)) rfl rfl (by rw[zy,hIx];rw[hL];exact zo _) (by decide)) ?_;rw[ZeP Gb (by omega) (by rw[hIx];exact z8 List.length hL)];rw[<-kL];exact u0.aA h0 [7] (.sl (.loc 6) 0 16 (Yo A l cl x).length none) [(3, .deep false 1 (wT (uQ A l))),(6, .rows 16 ((Yo A l cl x).map Z3))] ⟨rfl,rfl,rfl⟩
end Go.Proofs.YtlcbipfmodcedaaGreatDoor
namespace Go.Proofs.YtlcbipfmodcedaaGreatDoor
open Go.Sx Go.Our Go.Shelf
open _root_.Go.Proofs.Tryz
def lz(s:List Qd):List DC:=[.uA 16 (s.map Z3)]
def dx(sg:List (List Qd)):List (List DC):=sg.map lz
theorem RC:∀sg:List (List Qd),ZB (dx sg)=true
 | []=>rfl
 |s::sg=>by simp only[dx,zG,lz,ZB,Yr,JN,Zo,zB,xd];exact RC sg
instance {sg:List (List Qd)}:bu (dx sg):=⟨RC sg⟩
theorem BN{sg:List (List Qd)}{i:Nat}(h:i<sg.length):(dx sg)[i]?=some (lz sg[i]):=by unfold dx;rw[z6,z1 h];rfl
theorem ZiH(sg:List (List Qd)):(dx sg).length=sg.length:=by simp[dx]
theorem ZiI{sg:List (List Qd)}{i k:Nat}(h:i<sg.length)(hk:k=i):ot (dx sg) k 0=some (k, .uA 16 (sg[i].map Z3)):=by
 subst hk;unfold ot;rw[BN h];rfl
theorem Zcz(n:Nat):Hi (List.replicate n [SV.val (.slice none 0 0)]) (dx (List.replicate n [])):=by
 refine⟨by simp[dx],fun a row' h=>?_⟩;unfold dx at h;rw[x5]at h;obtain⟨ha,hr⟩:=ze.1 h;rw[yK]at ha;rw[List.getElem_replicate]at hr;subst hr;refine⟨_,by rw[vN,zf ha],?_⟩;exact And.intro (.inr ⟨rfl,16,rfl⟩) trivial
theorem ZiJ{sg:List (List Qd)}{x k:Nat}{s:List Qd}{rows:List (List SV)}{n:Nat}(hk:k=x)(hr:rows.take n=s.map Z3):uB (dx sg) k 0 (.uA 16 (rows.take n))=dx (sg.set x s):=by
 subst hk;exact Zgp (es:=16) (f:=Z3) rfl hr
theorem Zkf{K:Env}{w:World}{i:Nat}{sg:List (List Qd)}{R:List (List SV)}(h:gM K w i 1 (dx sg) R):∃vs:List Value,vs.length=sg.length/\R=vs.map tS/\∀x (hx:x<vs.length) (hs:x<sg.length),∃en,uL w vs[x] 16 (sg[x].map Z3) en:=by
 have hl:=h.len;rw[ZiH]at hl
 have key:∀x (hx:x<sg.length),∃v,R[x]?=some [.val v]/\∃en,uL w v 16 (sg[x].map Z3) en:=fun x hx=>by
  obtain⟨j9,v,h1,h2,h3⟩:=h.ck x 0 (lz sg[x]) 16 (sg[x].map Z3) (BN hx) rfl;have h4:=h.lens x _ _ (BN hx) h1;obtain⟨en,h5⟩:=R7 h3 (Zo _);refine⟨v,?_,en,h5⟩;rw[h1]
  match j9,h2,h4 with
  | [c],h2,_=>
    simp only[List.getElem?_cons_zero,zi]at h2;rw[h2]
 let vf:Nat->Value:=fun x=>match R[x]? with|some (.val v::_)=>v|_=>undef
 refine⟨(List.range sg.length).map vf,by simp,?_,fun x hx hs=>?_⟩
 .apply yu;intro x;by_cases hx:x<sg.length
  .obtain⟨v,h1,_⟩:=key x hx;rw[h1,z6,z6,yG hx];simp only[Option.map_some,tS,vf,h1]
  rw[zW (by omega),zW (by simp;omega)]
 .obtain⟨v,h1,en,h2⟩:=key x hs;refine⟨en,?_⟩;simp only[yg,yS,vf,h1];exact h2
theorem BO{M:Mx}{O:vX}{K:Env}{w:World}{i es j:Nat}{R:List (List SV)}(h:j≠i):Yn (me M O K w i es R).C [] (.loc j)=Yn M.C O (.loc j):=by
 have hb:Nat.beq j i=false:=by rw[<-Bool.not_eq_true];intro h3;exact h (Nat.eq_of_beq_eq_true h3)
 have e:Yn (me M O K w i es R).C [] (.loc j)=qv (.loc j) (Wk O++M.C.S):=by
  simp only[Yn,u5,me,qv,bA,hb];rfl
 exact e.trans Dt
theorem ZeW{M:Mx}{O:vX}{K:Env}{w:World}{i es:Nat}{R:List (List SV)}:Yn (me M O K w i es R).C [] (.loc i)=some (.rows es R):=by
 simp only[Yn,u5,me,qv,bA,Nat.beq_refl]
def lC(A:List LB)(l:List Qd)(cl:List Int):List (List Qd):=(List.range cl.length).map (Yo A l cl)
theorem RD{C:Cx}{w0:World}{F:Nat->Prop}{η0:Env}{px:Option (Fr×(SV->vX->Nat->Prop))}{O:vX}{nx:Nat}(A:List LB)(l:List Qd)(cl:List Int)(hT:C.T=uf)(h6:Yn C O (.loc 6)=some (.box [.sl (.loc 4) 0 1 cl.length none]))(h8:Yn C O (.loc 8)=some (.box [.sl (.loc 7) 0 1 cl.length none]))
 (h4:Yn C O (.loc 4)=some (.rows 1 (cl.map Zg))) (h7:u5 7 O=some (.deep false 1 (dx (lC A l cl)))) (ak:8<nx) (hl:∀x,(Yo A l cl x).length<=1152921504606846976) (a b:Nat) (ha:a<cl.length) (hb:b<cl.length):
 dn ⟨prog,C,w0,F,η0,px⟩ 103 [.int .i64 (a:Int), .int .i64 (b:Int), .ptr (.loc 6) 0 0 0, .ptr (.loc 8) 0 0 0] O nx (.int .i64 (UH A l cl a b)):=by
 refine dn.raw h7 rfl fun K w R H hR=>?_;obtain⟨vs,hvl,rfl,eG⟩:=Zkf hR;have kL:(lC A l cl).length=cl.length:=by simp[lC]
 rw[kL]at hvl;have hsx:∀x (h:x< (lC A l cl).length),(lC A l cl)[x]=Yo A l cl x:=fun x h=>by simp[lC]
 refine CALL.Q4 (G:=fun w=> ∀x (h:x<vs.length),∃en,uL w vs[x] 16 ((Yo A l cl x).map Z3) en) [6,8,4,7] (hT▸Z8G A l cl vs a b ha hb hvl hl) (fun η' w' H' x h=>?_) rfl (fun i hi=>?_) rfl rfl (fun p hp=>by cases hp) (fun j hj=>by cases hj) (fun p hp=>?_) ?_
 .obtain⟨en,he⟩:=eG x h (by omega);rw[hsx]at he;exact⟨en,he.now H'.fr (fun k h=>h)⟩
 .simp only[zL,xq,or_false]at hi;omega
 .simp only[zL,xq,or_false]at hp;rcases hp with rfl|rfl|rfl|rfl
  exact⟨by show 0<4;omega,(BO (show(6:Nat)≠7 by omega)).trans h6,rfl,fun h=>by cases h⟩;exact⟨by show 1<4;omega,(BO (show(8:Nat)≠7 by omega)).trans h8,rfl,fun h=>by cases h⟩
  .refine⟨by show 2<4;omega,?_,Yi (Vp _),fun h=>by cases h⟩;rw[Zv _ (h:= .rows 1 (cl.map Zg)) (Vp _)];exact(BO (show(4:Nat)≠7 by omega)).trans h4
  .refine⟨by show 3<4;omega,?_,Yi (ZD _ (fun _=>rfl) _),fun h=>by cases h⟩;rw[Zv _ (h:= .rows 1 (vs.map tS)) (ZD _ (fun _=>rfl) _)];exact ZeW
 .rintro r O' vW ⟨rfl,rfl,rfl⟩
  rfl
end Go.Proofs.YtlcbipfmodcedaaGreatDoor
