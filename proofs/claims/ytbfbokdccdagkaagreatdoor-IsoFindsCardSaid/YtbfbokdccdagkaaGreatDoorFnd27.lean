/- Part 27: RIsoFind. Conditions: as each part says. -/
import Derived.Test.YtbfbokdccdagkaaGreatDoorFnd25
import Derived.Test.YtbfbokdccdagkaaGreatDoorFnd26
set_option linter.unusedVariables false
set_option linter.unusedSimpArgs false
set_option maxRecDepth 20000
set_option maxHeartbeats 8000000
namespace Go.Proofs.YtbfbokdccdagkaaGreatDoor
open Go.Sx Go.Our
open Tryz
def Z45:Plan:=(Zv [(0,1),(1,1),(2,1),(3,1),(4,1),(6,1),(8,1),(9,1),(10,1),(12,1),(14,1),(15,1),(16,1),(5,2),(7,1),(11,2),(13,1),(17,1),(18,3),(19,1)])
theorem Zao(a b:List Qd):(nds2 a b).map Nd.cls=List.replicate ((Z0 a).length+(Z0 b).length) 0:=by
 unfold nds2 ndsM;rw[List.map_append,List.map_map,List.map_map,<-List.replicate_append_replicate];congr 1<;>exact List.map_const' ..
theorem Z2l{ns:List Nd}{C:List Int}{m:Nat}(h:m< (setN ns C).length)(h1:m<ns.length)(h2:m<C.length):(setN ns C)[m]=⟨ns[m].of,ns[m].lab,C[m]⟩:=List.getElem_zipWith ..
theorem Zgq{b:Blk}{r es len:Nat}(h:r=0\/0<len):Det (.sl b r es len none):=by
 rcases h with rfl|h
 ·exact Det.of rfl
 ·exact Zcu h
theorem Zap{η:Env}:∀{cs:List SV} {vs vs':List Value},(∀c∈cs,Det c)->DenL η cs vs->DenL η cs vs'->vs=vs'
 | [],_,_,_,h,h'=>by simp only[DenL]at h h';rw[h,h']
 |c::cs,_,_,hd,h,h'=>by
  simp only[DenL]at h h';obtain⟨u,us,rfl,h1,h2⟩:=h;obtain⟨u',us',rfl,h1',h2'⟩:=h';rw[hd c (List.mem_cons_self ..) η u u' h1 h1',Zap (fun d hm=>hd d (List.mem_cons_of_mem _ hm)) h2 h2']
theorem Zhu{cs:List SV}(h:∀c∈cs,Det c):Det (.agg cs):=by
 intro η u u' h1 h2;simp only[Den]at h1 h2;obtain⟨vs,rfl,h3,_⟩:=h1;obtain⟨vs',rfl,h4,_⟩:=h2;rw[Zap h h3 h4]
theorem Z9d{cs:List SV}{K:Prop}(hd:Det (.agg cs))(k:K):Z3c (.agg cs) K:=by
 show(match Z3a cs with|true=>K|false=>NEED (Det (.agg cs)) K)
 cases Z3a cs with
 |true=>exact k
 |false=>exact⟨hd,k⟩
theorem Z46(a b:List Qd)(budget:Int)(ha:a.length<=1152921504606846976)(hb:b.length<=1152921504606846976)(qa:Wf a)(qb:Wf b):
 Does prog tab 24 2 [.sl (.loc 0) 0 16 a.length none, .sl (.loc 1) 0 16 b.length none, .int .i64 budget] [] [(0, .rows 16 (a.map Zj)),(1, .rows 16 (b.map Zj))] (FdQ a b budget):=by
 have hv:=Z4p a [] b [] none none ha hb qa qb;rw[List.append_nil,List.append_nil]at hv;by_cases hv0:Vn a b=0
 case neg=>
  refine Does.enter Z1 call24 func24 rfl 90 rfl rfl [.tmp 6, .tmp 7] rfl ?_;intro w0 F η0 h0;conv=>whnf
  repeat'((first|refine AU ?_|(refine IW ?_ ?_<;>intro h<;>try(exfalso;omega)))<;>conv=>whnf)
  refine CALL.aA [0,1] (hv) ?_;rintro r O nx ⟨rfl,rfl,rfl⟩;conv=>whnf
  repeat'((first|refine AU ?_|(refine IW ?_ ?_<;>intro h<;>try(exfalso;omega)))<;>conv=>whnf)
  ·refine FIN.nilT 2 ?_;exact FIN.aA h0 [2] (.tup [.sl (.loc 2) 0 2 0 none, .int .i64 (Vn a b)]) [(2, .rows 2 [])] ⟨[],_, .inl ⟨hv0,rfl,rfl⟩,rfl,rfl,rfl⟩
  all_goals (exact(hv0 (by assumption)).elim)
 obtain⟨dA,dB⟩:=Z40 hv0;have hA:=YU dA;have hB:=YU dB;have hfa:=dA.few;have hfb:=dB.few;have hba:=Vq a [] none (by unfold V6;omega) (by rw[List.append_nil];omega);have hbb:=Vq b [] none (by unfold V6;omega) (by rw[List.append_nil];omega);have hgA:=Z1A a dA.few fun q hq=>by have:=(WN (dA.ck q hq)).2.2.2.2;omega
 have hgB:=Z1A b dB.few fun q hq=>by have:=(WN (dB.ck q hq)).2.2.2.2;omega
 have hga:(gndM a).length<=1048576:=Nat.le_trans (List.length_filter_le _ _) dA.few;have hgb:(gndM b).length<=1048576:=Nat.le_trans (List.length_filter_le _ _) dB.few;have hsm:=Zbt (gndM a) (gndM b) [] [] none none (by rw[List.append_nil];omega) (by rw[List.append_nil];omega);rw[List.append_nil]at hba hbb;rw[List.append_nil,List.append_nil]at hsm;rw[hv0]at hv;refine Does.enter Z1 call24 func24 rfl 90 rfl rfl [.tmp 6, .tmp 7] rfl ?_;intro w0 F η0 h0;conv=>whnf
 repeat'((first|refine AU ?_|(refine IW ?_ ?_<;>intro h<;>try(exfalso;omega)))<;>conv=>whnf)
 refine CALL.aA [0,1] (hv) ?_;rintro r O nx ⟨rfl,rfl,rfl⟩;conv=>whnf
 repeat'((first|refine AU ?_|(refine IW ?_ ?_<;>intro h<;>try(exfalso;omega)))<;>conv=>whnf)
 ·refine FIN.nilT 2 ?_;exact FIN.aA h0 [2] (.tup [.sl (.loc 2) 0 2 0 none, .int .i64 140]) [(2, .rows 2 [])] ⟨[],140, .inr (.inl ⟨hv0,fun x=>h (by have:=x.1;omega),rfl,rfl⟩),rfl,rfl,rfl⟩
 refine CALL.aA [0] (hba) ?_;rintro r O nx ⟨rfl,rfl,rfl⟩;conv=>whnf
 repeat'((first|refine AU ?_|(refine IW ?_ ?_<;>intro h<;>try(exfalso;omega)))<;>conv=>whnf)
 refine CALL.aA [1] (hbb) ?_;rintro r O nx ⟨rfl,rfl,rfl⟩;conv=>whnf
 repeat'((first|refine AU ?_|(refine IW ?_ ?_<;>intro h<;>try(exfalso;omega)))<;>conv=>whnf)
 ·refine FIN.nilT 2 ?_;exact FIN.aA h0 [4] (.tup [.sl (.loc 2) 0 2 0 none, .int .i64 140]) [(2, .rows 2 [])] ⟨[],140, .inr (.inl ⟨hv0,fun x=>h (congrArg Int.ofNat x.2.1),rfl,rfl⟩),rfl,rfl,rfl⟩
 have hAB:(Z0 b).length=(Z0 a).length:=(Int.ofNat_inj.1 h).symm;have hAB2:a.length=b.length:=by omega
 refine CALL.aA [0] (hgA) ?_;rintro r O nx ⟨rfl,rfl,rfl⟩;conv=>whnf
 repeat'((first|refine AU ?_|(refine IW ?_ ?_<;>intro h<;>try(exfalso;omega)))<;>conv=>whnf)
 refine CALL.aA [1] (hgB) ?_;rintro r O nx ⟨rfl,rfl,rfl⟩;conv=>whnf
 repeat'((first|refine AU ?_|(refine IW ?_ ?_<;>intro h<;>try(exfalso;omega)))<;>conv=>whnf)
 refine CALL.aA [4,5] (hsm) ?_;rintro r O nx ⟨rfl,rfl,rfl⟩;conv=>whnf
 repeat'((first|refine AU ?_|(refine IW ?_ ?_<;>intro h<;>try(exfalso;omega)))<;>conv=>whnf)
 ·refine FIN.nilT 2 ?_;exact FIN.aA h0 [6] (.tup [.sl (.loc 2) 0 2 0 none, .int .i64 140]) [(2, .rows 2 [])] ⟨[],140, .inr (.inl ⟨hv0,fun x=>by simp[x.2.2]at h,rfl,rfl⟩),rfl,rfl,rfl⟩
 have hgg:gndM a=gndM b:=by simpa using h
 have hSO:Zai a b:=⟨hAB2,hAB.symm,hgg⟩;have hlk:=Z9a a [] b [] none none dA dB (by rw[List.append_nil];omega) (by rw[List.append_nil];omega);rw[List.append_nil,List.append_nil]at hlk;refine CALL.aA [6,0,1] (hlk) ?_;rintro r O nx ⟨rfl,rfl,rfl⟩;have hW:=wok2 dA dB;have hst:=Z7I (nds2 a b) (ins2 a b) (by rw[Zao];exact hW);rw[Zao,Xi,Zfr,Z0A]at hst;conv=>whnf
 repeat'((first|refine AU ?_|(refine IW ?_ ?_<;>intro h<;>try(exfalso;omega)))<;>conv=>whnf)
 refine CALL.aA [7,8,9] (hst) ?_;rintro r O nx ⟨rfl,C,c,hSt,rfl,rfl⟩;obtain⟨hWF,hFl,hFr,hc0,hc1⟩:=hSt.ok hW;rw[List.length_replicate]at hFl hc1;have hNl:(setN (nds2 a b) C).length=(Z0 a).length+(Z0 b).length:=by rw[Z6j (by rw[hFl,Xi]),Xi]
 have hNc:(setN (nds2 a b) C).map Nd.cls=C:=Z6k (by rw[hFl,Xi])
 have hct:=Z7P (setN (nds2 a b) C) (Z0 a).length ((Z0 a).length+(Z0 b).length) (by omega) (fun m hm=>by
  rw[Z2l hm (by rw[Xi];omega) (by omega)];by_cases hml:m< (Z0 a).length
  ·rw[Z43 hml];simp[hml]
  ·obtain⟨q,rfl⟩:∃q,m=(Z0 a).length+q:=⟨m-(Z0 a).length,by omega⟩
   rw[Z44 (by omega)];simp) (fun n hn=>by
  have hm:n.cls∈C:=by rw[<-hNc];exact List.mem_map_of_mem hn
  have:=hFr _ hm
  omega) (by omega)
 rw[hNl,hNc]at hct;conv=>whnf
 repeat'((first|refine AU ?_|(refine IW ?_ ?_<;>intro h<;>try(exfalso;omega)))<;>conv=>whnf)
 refine CALL.aA [7,8,9] (hct) ?_;rintro r O nx ⟨rfl,rfl,e,rfl,hev⟩;conv=>whnf
 have hq:IntKind.i64.wrap ((((Z0 a).length+(Z0 b).length:Nat):Int).tdiv 2)=((Z0 a).length:Int):=by rw[hAB,Int.tdiv_eq_ediv_of_nonneg (by omega),Z9 (by omega) (by omega)];omega
 repeat'((first|(rw[hq];conv=>whnf)|(show DRAWN _ _ _ _ _ _ _;first|refine DRAWN.of (id:=12) Z1 mixed Z45 (by kernel_rfl) ?_)|refine ADD.mk (fun _ _=>?_)|refine AD ?_|refine FORK.mk ?_ ?_|(refine NEED.mk (Zgq (by omega)) ?_;conv=>whnf)|(refine NEED.mk ⟨by omega,by show _<=((max _ _:Nat):Int);omega⟩ ?_;conv=>whnf)|(refine NEED.mk ⟨by omega,by show _<=(((Z0 a).length+(Z0 b).length:Nat):Int);omega⟩ ?_;conv=>whnf)|refine AU ?_|(refine IW ?_ ?_<;>intro h<;>try(exfalso;omega)))<;>conv=>whnf)
 ·have hne:¬Z93 C (Z0 a).length:=fun x=>by rw[hev.2 x]at h;cases h
  refine FIN.nilT 2 ?_;exact FIN.aA h0 [10] (.tup [.sl (.loc 2) 0 2 0 none, .int .i64 140]) [(2, .rows 2 [])] ⟨[],140, .inr (.inr ⟨hv0,hSO,C,_,hSt,(Zan hne).symm⟩),rfl,rfl,rfl⟩
 refine Z9d (Zhu fun x hx=>?_) ?_
 ·simp only[List.mem_cons,List.not_mem_nil,or_false]at hx;rcases hx with rfl|rfl|rfl|rfl|rfl|rfl|rfl<;>first|exact Det.of rfl|exact Zgq (by omega)
 conv=>whnf
 repeat'((first|(show DRAWN _ _ _ _ _ _ _;first|refine DRAWN.of (id:=12) Z1 mixed Z45 (by kernel_rfl) ?_)|refine ADD.mk (fun _ _=>?_)|refine AD ?_|refine FORK.mk ?_ ?_|refine AU ?_|(refine IW ?_ ?_<;>intro h<;>try(exfalso;omega)))<;>conv=>whnf)
 have hlf:(if 0<if 65536<budget then 65536 else budget then if 65536<budget then 65536 else budget else 0)=((leftM budget:Nat):Int):=by unfold leftM;omega
 rw[hlf,Int.toNat_natCast,Nat.zero_add (Z0 a).length,Nat.add_sub_cancel_left (n:=(Z0 a).length) (m:=(Z0 b).length),hAB]
 have hK:RsOK a b (setN (nds2 a b) C) C (Z0 a).length:=by
  refine⟨dA,dB,rfl,hAB,by omega,by omega,fun i h h2=>?_,fun i h h2=>?_,fun i h h2=>?_⟩
  ·rw[Z2l h (by rw[Xi];omega) (by omega),Z43 h2]
  ·rw[Z2l h (by rw[Xi];omega) (by omega),Z44 h2]
  ·rw[Z2l h (by rw[Xi];omega) h2]
 have hrest:=Zbu a b (setN (nds2 a b) C) C (Z0 a).length hK (Z0 a).length [] [] (leftM budget) (by simp) (by unfold leftM;omega) ⟨by simp,by simp,by simp⟩ (by simp);have hinv:=Z0w (fits:=fitM (Z0 a++Z0 b) (Z0 a).length b (ins2 a b)) (Z0 a).length [] (leftM budget) (n:=(Z0 a).length) (ok:=okM C (Z0 a).length) ⟨by simp,by simp,by simp⟩;rw[show prsM (Z0 a) (Z0 b) []++ []=[]by simp[prsM]]at hrest;have hfr:ZdW a b C budget=_:=if_pos (hev.1 h);generalize VU (Z0 a).length (okM C (Z0 a).length) (fitM (Z0 a++Z0 b) (Z0 a).length b (ins2 a b)) (Z0 a).length [] (leftM budget)=Z at hrest hinv hfr;refine CALL.nilCell 10 4 2 rfl rfl ?_;refine CALL.aA [10,0,1,8,11] (hrest) ?_;rintro r O nx ⟨rfl,e2,hq⟩;cases Z with
 |found zs k=>
  obtain⟨rfl,rfl,he2⟩:=hq;have hzl:zs.length=(Z0 a).length:=by have:=(hinv.1 zs k rfl).1.2;simpa using this
  have he0:e2=[]:=List.length_eq_zero_iff.1 (by omega);subst he0;rw[List.append_nil];conv=>whnf
  repeat'((first|refine AU ?_|(refine IW ?_ ?_<;>intro h<;>try(exfalso;omega)))<;>conv=>whnf)
  exact FIN.aA h0 [12] (.tup [.sl (.loc 2) 0 2 zs.length none, .int .i64 0]) [(2, .rows 2 ((prsM (Z0 a) (Z0 b) zs).map YA))] ⟨_,0, .inr (.inr ⟨hv0,hSO,C,_,hSt,hfr.symm⟩),by rw[Z92 (by omega)],rfl,rfl⟩
 |none k=>
  obtain⟨rfl,rfl,he2⟩:=hq;conv=>whnf
  repeat'((first|refine AU ?_|(refine IW ?_ ?_<;>intro h<;>try(exfalso;omega)))<;>conv=>whnf)
  refine FIN.nilT 2 ?_;exact FIN.aA h0 [13] (.tup [.sl (.loc 2) 0 2 0 none, .int .i64 140]) [(2, .rows 2 [])] ⟨[],140, .inr (.inr ⟨hv0,hSO,C,_,hSt,hfr.symm⟩),rfl,rfl,rfl⟩
 |over=>
  obtain⟨rfl,⟨m,rfl⟩,he2⟩:=hq;conv=>whnf
  repeat'((first|refine AU ?_|(refine IW ?_ ?_<;>intro h<;>try(exfalso;omega)))<;>conv=>whnf)
  refine FIN.nilT 2 ?_;exact FIN.aA h0 [13] (.tup [.sl (.loc 2) 0 2 0 none, .int .i64 4]) [(2, .rows 2 [])] ⟨[],4, .inr (.inr ⟨hv0,hSO,C,_,hSt,hfr.symm⟩),rfl,rfl,rfl⟩
theorem Z9e(a b:List Qd)(budget:Int)(ha:a.length<=1152921504606846976)(hb:b.length<=1152921504606846976)(qa:Wf a)(qb:Wf b):
 Does prog tab 26 2 [.sl (.loc 0) 0 16 a.length none, .sl (.loc 1) 0 16 b.length none, .int .i64 budget] [] [(0, .rows 16 (a.map Zj)),(1, .rows 16 (b.map Zj))] (fun r O nx=> ∃ps e,FindIs a b budget ps e/\r= .tup [.bool (Z7V e).1, .int .i64 (Z7V e).2]/\O=[]/\nx=2):=by
 have hf:=Z46 a b budget ha hb qa qb;refine Does.enter Z1 call26 func26 rfl 22 rfl rfl [.tmp 6, .tmp 7] rfl ?_;intro w0 F η0 h0;conv=>whnf
 repeat'((first|refine AU ?_|(refine IW ?_ ?_<;>intro h<;>try(exfalso;omega)))<;>conv=>whnf)
 refine CALL.aA [0,1] (hf) ?_;rintro r O nx ⟨ps,e,hF,rfl,rfl,rfl⟩;conv=>whnf
 repeat'((first|refine AU ?_|(refine IW ?_ ?_<;>intro h<;>try(exfalso;omega)))<;>conv=>whnf)
 ·exact FIN.val h0 rfl ⟨ps,e,hF,by unfold Z7V;rw[if_pos h],rfl,rfl⟩
 ·exact FIN.val h0 rfl ⟨ps,e,hF,by unfold Z7V;rw[if_neg h];rfl,rfl,rfl⟩
end Go.Proofs.YtbfbokdccdagkaaGreatDoor
