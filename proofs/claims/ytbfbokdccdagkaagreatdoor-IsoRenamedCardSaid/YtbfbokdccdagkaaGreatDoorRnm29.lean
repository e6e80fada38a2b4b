/- Part 29: LawRen. Conditions: as each part says. -/
import Derived.Test.YtbfbokdccdagkaaGreatDoorRnm25
import Derived.Test.YtbfbokdccdagkaaGreatDoorRnm26
import Derived.Test.YtbfbokdccdagkaaGreatDoorRnm28
set_option linter.unusedVariables false
set_option linter.unusedSimpArgs false
set_option maxRecDepth 20000
set_option maxHeartbeats 8000000
namespace Go.Proofs.YtbfbokdccdagkaaGreatDoor
open Go.Sx Go.Our
open Tryz
theorem ZfQ{M:Mx}{O:Hps}{nx:Nat}{f:FuncId}{args:List SV}{K:SV->Hps->Nat->Prop}(es:Nat)(pre post:List SV)(ha:args=pre++ .val (.slice none 0 0)::post)(hc:CALL M f (pre++ .sl (.loc nx) 0 es 0 none::post) ((nx, .rows es [])::O) (nx+1) K):CALL M f args O nx K:=by
 refine⟨fun η w vs H hd=>?_⟩;subst ha;have hpre:η<+:η++ [none]:=List.prefix_append _ _;have hnew:(η++ [none])[nx]?=some (none:Option Ent):=ZL H.len _;have H1:HeapOK M (η++ [none]) w ((nx, .rows es [])::O) (nx+1):=H.name none (Or.inl ⟨hnew,rfl⟩) (fun e h=>by cases h) (fun e h=>by cases h);refine(hc.out (η++ [none]) w vs H1 (Z6x hpre (by simp only[Den];exact .inl ⟨hnew,trivial,trivial⟩) hd)).mono fun v' w' ⟨r,O',nx',η',h3,h4,h5,h6⟩=>⟨r,O',nx',η',hpre.trans h3,h4,h5,h6⟩
theorem Zcj:∀(L:List Int) (ks:List CK),ks=List.replicate L.length (.int .i64)->Ze ks (L.map Zg).flatten (L.map Zg).flatten=some true
 | [],ks,h=>by subst h;rfl
 |x::L,ks,h=>by
  subst h;have ih:=Zcj L _ rfl;simp only[List.map_cons,List.flatten_cons,Zg,List.length_cons,List.replicate_succ,List.cons_append,List.nil_append,Ze]at ih⊢;rw[ih];simp[XE]
theorem Zhe{ks:List CK}{xs ys:List SV}(h:Ze ks xs ys=some true):eqB ks xs ys=true:=by unfold eqB;rw[h]
theorem ZfR{o:Option Bool}{r:Bool}(h:o=some r):o.isSome=true:=by rw[h];rfl
theorem Zck{l:List Qd}(h:(YN l).2≠0):checkM l l []=(YN l).2:=by
 have hv:Xr l l=(YN l).2:=by unfold Xr;rw[if_pos h]
 unfold checkM;rw[if_pos (by rw[hv];exact h),hv]
theorem ZdV{a b:List Qd}{ps:List Pr}(h:Bij a b ps):setL ZE (a.map (Xb ps))=b:=(Z5R triQ h.vb.rise fun z=>h.img.mem_iff).symm
theorem Z8K{l:List Qd}(d:DsOK l):ClsOK l:=⟨d.few,fun q hq=>Zfz (d.ck q hq)⟩
theorem ZeF{l:List Qd}(d:DsOK l):setL ZE l=l:=(Z5R triQ d.rise fun z=>Iff.rfl).symm
set_option maxHeartbeats 16000000 in
theorem Z7H(l:List Qd)(picks:List Int)(budget:Int)(hl:X8 l)(ql:Z0V l)(hp:picks.length<=1152921504606846976):Does prog tab 7 2 [.sl (.loc 0) 0 16 l.length none, .sl (.loc 1) 0 1 picks.length none, .int .i64 budget] [] [(0, .rows 16 (l.map Zk)),(1, .rows 1 (picks.map Zg))] (ValK 2 (.bool true)):=by
 have hv:=Z9r l [] hl ql;have hA:=Xh l [] none hl (by unfold X8 at hl;simp;omega);have hck0:=XC l [] l [] [] [] none none none hl hl ql ql (by unfold X8 at hl;simp;omega) (by unfold X8 at hl;simp;omega) (by simp);rw[List.append_nil]at hv hA hck0;refine Does.enter Z1 call7 func7 rfl 106 rfl rfl [.tmp 6] rfl ?_;intro w0 F η0 h0;conv=>whnf
 repeat'((first|refine CALL.value (Z9L) rfl rfl ?_|refine AU ?_|(refine IW ?_ ?_<;>intro h<;>try(exfalso;omega)))<;>conv=>whnf)
 refine CALL.aA [0] (hv) ?_;rintro r O nx ⟨rfl,rfl,rfl⟩;conv=>whnf
 repeat'((first|refine CALL.value (Yv _) rfl rfl ?_|refine AU ?_|(refine IW ?_ ?_<;>intro h<;>try(exfalso;omega)))<;>conv=>whnf)
 ·refine ZfQ 2 [_,_] [] rfl ?_;refine CALL.aA [0,0,2] (hck0) ?_;rintro r O nx ⟨rfl,rfl,rfl⟩;conv=>whnf
  repeat'((first|refine CALL.value (Yv _) rfl rfl ?_|refine AU ?_|(refine IW ?_ ?_<;>intro h<;>try(exfalso;omega)))<;>conv=>whnf)
  rw[Zck (by omega)];exact FIN.valueK h0 rfl (by simp)
 have d:=ZfA (show(YN l).2=0 by omega);have hAl:=XT d;refine CALL.aA [0] (hA) ?_;rintro r O nx ⟨j,hj,rfl,rfl,rfl⟩;have hS1:=Zca (Z0 l) (List.replicate j []) picks (some (Z0 l).length) none hAl (by have:=XT d;have h2:=d.few;have:(Y9 l).length<=l.length*4:=XV _ Yz _;rw[List.length_append,List.length_replicate];unfold Z0 at*;omega) hp;conv=>whnf
 repeat'((first|refine AU ?_|(refine IW ?_ ?_<;>intro h<;>try(exfalso;omega)))<;>conv=>whnf)
 refine CALL.aA [2,1] (hS1) ?_;rintro r O nx ⟨T,hT,rfl,rfl,rfl⟩;obtain⟨b1,b2⟩:=ZfL d hT;have hz1:((Z0 l).zip T).length=(Z0 l).length:=by rw[List.length_zip,hT.length_eq];omega
 generalize(Z0 l).zip T=Q at b1 b2 hz1⊢;have hR:=W7 l [] none Q [] none hl (by unfold X8 at hl;simp;omega) (by simp;omega);rw[List.append_nil,List.append_nil,hz1]at hR;conv=>whnf
 repeat'((first|refine AU ?_|(refine IW ?_ ?_<;>intro h<;>try(exfalso;omega)))<;>conv=>whnf)
 refine CALL.aA [0,3] (hR) ?_;rintro r O nx ⟨j2,hj2,rfl,rfl,rfl⟩;have dl:=d.few;generalize setL ZE (l.map (Xb Q))=b at b1 b2 hj2⊢;have db:=b1.vb.few;have qb:Z0V b:=ZhF b1.vb;have hzb:(b++List.replicate j2 Yf).length<=1152921504606846976:=by rw[List.length_append,List.length_replicate];omega
 have hck1:=XC l [] b (List.replicate j2 Yf) Q [] none (some b.length) none hl (by unfold X8;omega) ql qb (by simp;omega) hzb (by simp;omega);rw[List.append_nil,List.append_nil,hz1,check_iff.2 b1]at hck1;conv=>whnf
 repeat'((first|refine AU ?_|(refine IW ?_ ?_<;>intro h<;>try(exfalso;omega)))<;>conv=>whnf)
 refine CALL.aA [0,4,3] (hck1) ?_;rintro r O nx ⟨rfl,rfl,rfl⟩;have hT1:=Z6B Q [] none (by simp;omega) (by omega);rw[List.append_nil,hz1]at hT1;conv=>whnf
 repeat'((first|refine CALL.value (Yv _) rfl rfl ?_|refine AU ?_|(refine IW ?_ ?_<;>intro h<;>try(exfalso;omega)))<;>conv=>whnf)
 refine CALL.aA [3] (hT1) ?_;rintro r O nx ⟨rfl,rfl,rfl⟩;have hck2:=XC b (List.replicate j2 Yf) l [] (VC Q) [] (some b.length) none none (by unfold X8;omega) hl qb ql hzb (by simp;omega) (by unfold VC;simp;omega);rw[List.append_nil,List.append_nil,check_iff.2 b1.turn]at hck2;have ht1:(VC Q).length=(Z0 l).length:=by unfold VC;rw[List.length_map,hz1]
 rw[ht1]at hck2;conv=>whnf
 repeat'((first|refine AU ?_|(refine IW ?_ ?_<;>intro h<;>try(exfalso;omega)))<;>conv=>whnf)
 refine CALL.aA [4,0,5] (hck2) ?_;rintro r O nx ⟨rfl,rfl,rfl⟩;have hC1:=U2 l [] none (Z8K d);have hC2:=U2 b (List.replicate j2 Yf) (some b.length) (Z8K b1.vb);rw[List.append_nil,ZeF d]at hC1;rw[ZeF b1.vb]at hC2;conv=>whnf
 repeat'((first|refine CALL.value (Yv _) rfl rfl ?_|refine AU ?_|(refine IW ?_ ?_<;>intro h<;>try(exfalso;omega)))<;>conv=>whnf)
 refine CALL.aA [0] (hC1) ?_;rintro r O nx ⟨F,c,hSt,rfl,rfl,rfl⟩;have hW1:=Z7u (Z8K d);have hW2:=Z7u (Z8K b1.vb);obtain⟨zs,hm,_⟩:=b1.maps;obtain⟨hWF,hFl,hFr,hc0,hc1⟩:=hSt.ok hW1;rw[List.length_replicate]at hFl hc1;have cn:∀{F:List Int} {A:List LB} {n:Nat},(XW F A n).length=n:=fun{F A n}=>by unfold XW;rw[U1,List.length_replicate]
 have cb:∀{F:List Int} {A:List LB} {n:Nat},F.length=A.length->A.length<=67108864->∀x∈XW F A n,x.length<=67108864:=fun{F A n} h1 h2 x hx=>by
  have:=W6 (l:=F.zip A) (N:=0) (out:=List.replicate n []) (fun x hx=>by rw[List.eq_of_mem_replicate hx];exact Nat.le_refl _) x hx;rw[List.length_zip]at this;omega
 have hz3:=Z41 (XW F (Z0 l) c.toNat) (by rw[cn];omega) (cb hFl (by omega));rw[Z6D hFl (fun x hx=>(hFr x hx).1),cn]at hz3;conv=>whnf
 repeat'((first|refine CALL.value (Yv _) rfl rfl ?_|refine AU ?_|(refine IW ?_ ?_<;>intro h<;>try(exfalso;omega)))<;>conv=>whnf)
 refine CALL.aA [6] (hz3) ?_;rintro r O nx ⟨rfl,rfl,rfl⟩;conv=>whnf
 repeat'((first|refine CALL.value (Yv _) rfl rfl ?_|refine AU ?_|(refine IW ?_ ?_<;>intro h<;>try(exfalso;omega)))<;>conv=>whnf)
 refine CALL.aA [4] (hC2) ?_;rintro r O nx ⟨F2,c2,hSt2,rfl,rfl,rfl⟩;obtain⟨hWF2,hFl2,hFr2,hc02,hc12⟩:=hSt2.ok hW2;rw[List.length_replicate]at hFl2 hc12;have hAb:=XT b1.vb;have hz4:=Z41 (XW F2 (Z0 b) c2.toNat) (by rw[cn];omega) (cb hFl2 (by omega));rw[Z6D hFl2 (fun x hx=>(hFr2 x hx).1),cn,<-ZfO (hm.sizes hSt hSt2)]at hz4;conv=>whnf
 repeat'((first|refine CALL.value (Yv _) rfl rfl ?_|refine AU ?_|(refine IW ?_ ?_<;>intro h<;>try(exfalso;omega)))<;>conv=>whnf)
 refine CALL.aA [7] (hz4) ?_;rintro r O nx ⟨rfl,rfl,rfl⟩;conv=>whnf
 repeat'((first|refine CALL.value (Yv _) rfl rfl ?_|refine AU ?_|(refine IW ?_ ?_<;>intro h<;>try(exfalso;omega)))<;>conv=>whnf)
 have hq:∀(σ τ:Nat->Nat) (ks:List CK),ks=List.replicate 65 (.int .i64)->Ze ks (X9 σ ((szM (cntM F c)).map Zg)).flatten (X9 τ ((szM (cntM F c)).map Zg)).flatten=some true:=fun σ τ ks h=>by
  rw[ZF σ (ZV Zg (fun _=>rfl) _),ZF τ (ZV Zg (fun _=>rfl) _)];exact Zcj _ _ (by rw[Z2N];exact h)
 refine NEED.mk (ZfR (hq _ _ _ rfl)) ?_;simp(disch:=exact hq _ _ _ rfl) only[Zhe];conv=>whnf
 repeat'((first|refine CALL.value (Yv _) rfl rfl ?_|refine AU ?_|(refine IW ?_ ?_<;>intro h<;>try(exfalso;omega)))<;>conv=>whnf)
 have hF:=WP l [] b (List.replicate j2 Yf) none (some b.length) budget (by omega) (by omega) ql qb (by simp;omega) hzb;rw[List.append_nil]at hF;refine CALL.aA [0,4] (hF) ?_;rintro r O nx ⟨ps,e,hFi,rfl,rfl,rfl⟩;have hpl:=ZdR hFi;have he:=b1.find hFi;have hfb:e=0->Bij l b ps:=fun h=>by subst h;exact ZdP hFi
 conv=>whnf
 repeat'((first|refine CALL.value (Yv _) rfl rfl ?_|refine AU ?_|(refine IW ?_ ?_<;>intro h<;>try(exfalso;omega)))<;>conv=>whnf)
 ·rcases he with⟨_,rfl,hp0⟩|he
  ·refine FIN.valueK h0 rfl (congrArg SV.bool ?_);have:(0:Int)< ((Z0 l).length:Int):=by omega
   simp[hp0]
  ·omega
 have hB:=hfb (by omega);have hK1:=XC l [] b (List.replicate j2 Yf) ps [] none (some b.length) none hl (by unfold X8;omega) ql qb (by simp;omega) hzb (by simp;omega);rw[List.append_nil,List.append_nil,check_iff.2 hB]at hK1;refine CALL.aA [0,4,8] (hK1) ?_;rintro r O nx ⟨rfl,rfl,rfl⟩;have hT2:=Z6B ps [] none (by simp;omega) (by omega);rw[List.append_nil]at hT2;conv=>whnf
 repeat'((first|refine CALL.value (Yv _) rfl rfl ?_|refine AU ?_|(refine IW ?_ ?_<;>intro h<;>try(exfalso;omega)))<;>conv=>whnf)
 refine CALL.aA [8] (hT2) ?_;rintro r O nx ⟨rfl,rfl,rfl⟩;have hK2:=XC b (List.replicate j2 Yf) l [] (VC ps) [] (some b.length) none none (by unfold X8;omega) hl qb ql hzb (by simp;omega) (by unfold VC;simp;omega);rw[List.append_nil,List.append_nil,check_iff.2 hB.turn,show(VC ps).length=ps.length from List.length_map ..]at hK2;conv=>whnf
 repeat'((first|refine AU ?_|(refine IW ?_ ?_<;>intro h<;>try(exfalso;omega)))<;>conv=>whnf)
 refine CALL.aA [4,0,9] (hK2) ?_;rintro r O nx ⟨rfl,rfl,rfl⟩;have hR2:=W7 l [] none ps [] none hl (by unfold X8 at hl;simp;omega) (by simp;omega);rw[List.append_nil,List.append_nil,ZdV hB]at hR2;conv=>whnf
 repeat'((first|refine CALL.value (Yv _) rfl rfl ?_|refine AU ?_|(refine IW ?_ ?_<;>intro h<;>try(exfalso;omega)))<;>conv=>whnf)
 refine CALL.aA [0,8] (hR2) ?_;rintro r O nx ⟨j3,hj3,rfl,rfl,rfl⟩;have hSq:=Z38 b (List.replicate j3 Yf) (List.replicate j2 Yf) (some b.length) (some b.length) (by rw[List.length_append,List.length_replicate];omega);conv=>whnf
 repeat'((first|refine AU ?_|(refine IW ?_ ?_<;>intro h<;>try(exfalso;omega)))<;>conv=>whnf)
 refine CALL.aA [10,4] (hSq) ?_;rintro r O nx ⟨rfl,rfl,rfl⟩;conv=>whnf
 repeat'((first|refine AU ?_|(refine IW ?_ ?_<;>intro h<;>try(exfalso;omega)))<;>conv=>whnf)
 exact FIN.valueK h0 rfl rfl
end Go.Proofs.YtbfbokdccdagkaaGreatDoor
