/- Part 31: RCan2, RCan3. Conditions: as each part says. -/
import Derived.Test.YtlcbipfmodcedaaGreatDoorFrm23
import Derived.Test.YtlcbipfmodcedaaGreatDoorFrm24
import Derived.Test.YtlcbipfmodcedaaGreatDoorFrm30
set_option linter.unusedVariables false
set_option linter.unusedSimpArgs false
set_option maxRecDepth 20000
set_option maxHeartbeats 8000000
namespace Go.Proofs.YtlcbipfmodcedaaGreatDoor
open Go.Sx Go.Our Go.Lib
open _root_.Go.Proofs.Tryz
def Zgr:uu:=(Zs [(0,1),(1,1),(2,1),(4,1),(5,1),(6,1),(3,2),(7,2),(8,3),(9,1)])
theorem Rl(a b:List Qd)(la lb:Option Nat)(ha:a.length<=1152921504606846976)(hb:b.length<=1152921504606846976):vS prog uf 79 2 [.sl (.loc 0) 0 16 a.length la, .sl (.loc 1) 0 16 b.length lb] [] [(0, .rows 16 (a.map Z3)),(1, .rows 16 (b.map Z3))] (w6 2 (.int .i64 (JE a b))):=by
 have gA:∀{i k:Nat} (h:i<a.length),k=i->(a.map Z3)[k]?=some (Z3 a[i]):=fun h e=>by subst e;rw[z6,z1 h];rfl
 have gB:∀{i k:Nat} (h:i<b.length),k=i->(b.map Z3)[k]?=some (Z3 b[i]):=fun h e=>by subst e;rw[z6,z1 h];rfl
 refine vS.enter Z0 call79 func79 rfl 36 rfl rfl [.tmp 4] rfl ?_;intro w0 F η0 h0;conv=>whnf
 refine vZ.kj Z0 [0,1] [] (X:=Nat) (fun i=>i<=a.length/\i<=b.length/\JE a b=JE (a.drop i) (b.drop i)) (fun i=>[(5, .int .i64 (i:Int))]) (fun i=>[]) 2 (fun i=>a.length-i) 0 ⟨by omega,by omega,rfl⟩ ?_;conv=>whnf
 refine⟨by exact vU.cA h0,?_⟩;rintro i ⟨hi,hib,he⟩;conv=>whnf
 by_cases l8:i<a.length
 .by_cases nA:i<b.length
  .have hd:=Z9R l8 nA;repeat'(first|refine GET.at (gA l8 (by omega)) ?_|refine GET.at (gB nA (by omega)) ?_|refine CALL.value (Xc a[i] b[i]) rfl rfl ?_|(show uq _ _ _ _ _ _ _;first|refine Z4 4 Zgr ?_)|refine wh.mk (fun _ _=>?_)|refine AU ?_|refine IW ?_ ?_<;>intro h<;>try omega)<;>conv=>whnf
   exact u0.ua h0 rfl (z8 (SV.int _) (by rw[he,hd,z7 ‹_›]))
   .refine⟨i+1,⟨by omega,by omega,by rw[he,hd,zf ‹_›]⟩,by omega,?_⟩;conv=>whnf
    exact vU.cA h0
  .have hend:=LW (a:=a) (b:=b) (i:=i) (.inr (by omega)) hi hib;repeat'(first|refine IW ?_ ?_<;>intro h<;>try omega)<;>conv=>whnf
   exact u0.ua h0 rfl (z8 (SV.int _) (by rw[he,hend,Z9 (by omega) (by omega)]))
 .have hend:=LW (a:=a) (b:=b) (i:=i) (.inl (by omega)) hi hib;repeat'(first|refine IW ?_ ?_<;>intro h<;>try omega)<;>conv=>whnf
  exact u0.ua h0 rfl (z8 (SV.int _) (by rw[he,hend,Z9 (by omega) (by omega)]))
theorem JU(xa xb ca cb:Int)(va vb:Value)(sa sb:List Qd)(iI:sa.length<=1152921504606846976)(mE:sb.length<=1152921504606846976)(hca:0<=ca/\ca<1048576)(hcb:0<=cb/\cb<1048576):
 fR (fun w=>(∃en,uL w va 16 (sa.map Z3) en)/\∃en,uL w vb 16 (sb.map Z3) en) prog uf 68 0 [.agg [.int .i64 xa, .int .i64 ca, .val va], .agg [.int .i64 xb, .int .i64 cb, .val vb]] [] [] (uN (.int .i64 (VH ca cb sa sb))):=by
 refine vS.gl Z0 call68 func68 rfl 20 rfl rfl [.tmp 4] rfl ?_;intro w0 F η0 h0 hG hF;conv=>whnf
 have hno:∀k, ¬F k:=fun k h=>by rw[hF]at h;simp[Ym,u5]at h
 obtain⟨⟨ea,hU⟩,⟨eb,hV⟩⟩:=hG;have hls:=Rl sa sb none none iI mE;rw[show sa.length=(sa.map Z3).length from(zy ..).symm,show sb.length=(sb.map Z3).length from(zy ..).symm]at hls;repeat'(first|refine IW ?_ ?_<;>intro h<;>try omega)<;>conv=>whnf
 .refine u0.value h0 rfl (z8 (SV.int _) ?_);unfold VH;rw[z7 ‹_›,Z9 (by omega) (by omega)]
 .refine CALL.rG hU hV hno rfl rfl hls (Zo _) (Zo _) rfl ?_;conv=>whnf
  refine u0.value h0 rfl (z8 (SV.int _) ?_);unfold VH;rw[zf ‹_›]
end Go.Proofs.YtlcbipfmodcedaaGreatDoor
namespace Go.Proofs.YtlcbipfmodcedaaGreatDoor
open Go.Sx Go.Our Go.Lib
open _root_.Go.Proofs.Tryz
def Zgt:uu:=(Zs [(0,1),(1,1),(2,1),(4,1),(3,2),(5,2),(6,3),(7,1)])
def Ge(n:Nat)(lim:Option Nat)(nl:Nat)(ll la:Option Nat):Hp:= .box [.sl (.loc 1) 0 16 n lim, .sl (.loc 5) 0 1 nl ll, .mp (.loc 2), .sl (.loc 3) 0 1 nl la]
theorem Br(A:List LB)(n:Nat)(lim ll la:Option Nat)(cl:List Int)(x:Nat)(t:Tm)(ki:cl.length=A.length)(e8:A.length<=4096)(hnd:A.Nodup)(ht:t.k=2->t.t∈A)(kg:∀c∈cl,0<=c/\c<10000)(hx:x<A.length):
 vS prog uf 111 6 [.ptr (.loc 0) 0 0 0, .agg (ZF t), .int .i64 (x:Int), .sl (.loc 4) 0 1 A.length none] [] [(0,Ge n lim A.length ll la),(2, .mp (qb (Xr 0 A A.length))),(4, .rows 1 (cl.map Zg))]
 (w6 6 (.agg (ZF (Xo A cl x t)))):=by
 have l6:=G2 (b:=0) hnd;refine vS.enter Z0 call111 func111 rfl 32 rfl rfl [.cell 8 65] rfl ?_;intro w0 F η0 h0;conv=>whnf
 repeat'(first|(show uq _ _ _ _ _ _ _;first|refine Z4 3 Zgt ?_)|refine wh.mk (fun _ _=>?_)|refine AD ?_|refine IW ?_ ?_<;>intro h<;>try omega)<;>conv=>whnf
 .rw[Bo ‹_›];exact u0.aA h0 [] (.agg (ZF t)) [] ⟨rfl,rfl,rfl⟩
 .have h2:t.k=2:= ‹_›;have bT:t.t∈A:=ht h2;have qc:=y7 bT;have og:A[A.idxOf t.t]=t.t:=yI qc;have bf:oJ 0 A t.t=((A.idxOf t.t:Nat):Int):=by unfold oJ;rw[zf bT];omega
  refine u6.mk ⟨KT.ok _,JR KT jC _⟩ ?_;refine eu.A KT jC t.t (Xr 0 A A.length) (fun i v hf=>?_) (fun hf=>?_)
  rotate_left
  .have hg:=tQ (b:=0) hnd A.length t.t (zo _);rw[Uq hf,yp qc]at hg;cases hg
  have hv:=G1 hf;rw[l6,bf]at hv;subst hv;obtain⟨n0,hn0⟩:∃n0,n0=A.idxOf t.t:=⟨_,rfl⟩;rw[<-hn0]at qc⊢
  have gC:∀{m:Nat},m=n0->(cl.map Zg)[m]?=some (Zg ((cl[n0]'(by omega)).toNat:Int)):=fun{m} e=>by
   rw[e,z6,z1 (by omega)];have:=(kg _ (zk (show n0<cl.length by omega))).1;rw[vE this];rfl
  have hcb:=kg _ (zk (show n0<cl.length by omega));have tW:=LS 4 (cl[n0]'(by omega)).toNat (by omega) (by omega);rw[Zg3]at tW;clear hf;conv=>whnf
  repeat'(first|refine GET.at (gC (by omega)) ?_|refine CALL.value (tW) rfl rfl ?_|refine AU ?_|refine IW ?_ ?_<;>intro h<;>try omega)<;>conv=>whnf
  .rw[Rm h2 (show A.idxOf t.t=x by omega)];exact u0.aA h0 [] (.agg (ZF ⟨t.k,[120],t.y,t.l⟩)) [] ⟨rfl,rfl,rfl⟩
  .have hne:¬A.idxOf t.t=x:=by omega
   rw[Rn h2 hne,<-hn0,zl,z1 (show n0<cl.length by omega)];exact u0.aA h0 [] (.agg (ZF ⟨t.k,o8 (cl[n0]'(by omega)).toNat,t.y,t.l⟩)) [] ⟨rfl,rfl,rfl⟩
end Go.Proofs.YtlcbipfmodcedaaGreatDoor
