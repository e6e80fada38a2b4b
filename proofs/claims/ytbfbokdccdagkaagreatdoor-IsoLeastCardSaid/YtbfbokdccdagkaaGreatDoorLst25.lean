/- Part 25: LawRel, LawLst. Conditions: as each part says. -/
import Derived.Test.YtbfbokdccdagkaaGreatDoorLst22
import Derived.Test.YtbfbokdccdagkaaGreatDoorLst24
set_option linter.unusedVariables false
set_option linter.unusedSimpArgs false
set_option maxRecDepth 20000
set_option maxHeartbeats 8000000
namespace Go.Proofs.YtbfbokdccdagkaaGreatDoor
open Go.Sx Go.Our
theorem Zf9(A B:List LB)(zs:List Nat):(prsM A B zs).length<=A.length:=by unfold prsM;rw[List.length_zipWith];omega
theorem Zdm{a b:List Qd}{budget:Int}{ps:List Pr}{e:Int}(h:FindIs a b budget ps e):ps.length<=4194304:=by
 rcases h with⟨_,rfl,_⟩|⟨_,_,rfl,_⟩|⟨hv,_,F,c,_,he⟩
 ·simp
 ·simp
 ·have hA:=XP (VT hv).1;unfold Z6c at he;split at he
  ·split at he<;>injection he with h1 h2
   ·rw[h1];exact Nat.le_trans (Zf9 _ _ _) hA
   ·rw[h1];simp
   ·rw[h1];simp
  ·injection he with h1 h2;rw[h1];simp
end Go.Proofs.YtbfbokdccdagkaaGreatDoor
namespace Go.Proofs.YtbfbokdccdagkaaGreatDoor
open Go.Sx Go.Our
open Tryz
def Z6j:Plan:=(ZT [(0,1),(1,1),(2,1),(3,1),(5,1),(6,1),(7,1),(8,1),(4,2),(9,2),(10,1)])
def ZbN:Plan:=(ZT [(0,1),(1,1),(2,1),(3,1),(5,1),(6,1),(7,1),(8,1),(4,2),(9,2),(10,1),(11,1)])
theorem ZgX{l:List Qd}(d:DsOK l):Z0H l:=fun q hq=>by
 obtain⟨t1,t2,t3,t4⟩:=Zgh (d.ck q hq);unfold TmOK at t1 t2 t3 t4;refine⟨?_,?_,?_,?_⟩<;>(unfold TmSm;omega)
set_option maxHeartbeats 16000000 in
theorem Z7k(l:List Qd)(picks other:List Int)(hl:XM l)(ql:Z0H l)(hp:picks.length<=1152921504606846976)(ho:other.length<=1152921504606846976):Does prog tab 8 3 [.sl (.loc 0) 0 16 l.length none, .sl (.loc 1) 0 1 picks.length none, .sl (.loc 2) 0 1 other.length none] [] [(0, .rows 16 (l.map Zm)),(1, .rows 1 (picks.map Zk)),(2, .rows 1 (other.map Zk))] (ValK 3 (.bool true)):=by
 have hv:=Z8Y l [] hl ql;have hA:=Xb l [] none hl (by unfold XM at hl;simp;omega);rw[List.append_nil]at hv hA;refine Does.enter Z1 call8 func8 rfl 99 rfl rfl [.tmp 6] rfl ?_;intro w0 F η0 h0;conv=>whnf
 repeat'((first|refine CALL.value (Z9i) rfl rfl ?_|refine AU ?_|(refine IW ?_ ?_<;>intro h<;>try(exfalso;omega)))<;>conv=>whnf)
 refine CALL.aA [0] (hv) ?_;rintro r O nx ⟨rfl,rfl,rfl⟩;conv=>whnf
 repeat'((first|refine CALL.value (WB _) rfl rfl ?_|refine AU ?_|(refine IW ?_ ?_<;>intro h<;>try(exfalso;omega)))<;>conv=>whnf)
 ·exact FIN.valueK h0 rfl rfl
 have d:=ZeZ (show(X5 l).2=0 by omega);have hAl:=XP d;refine CALL.aA [0] (hA) ?_;rintro r O nx ⟨j,hj,rfl,rfl,rfl⟩;have hS1:=Z6i (Z0 l) (List.replicate j []) picks (some (Z0 l).length) none hAl (by have:=XP d;have h2:=d.few;have:(ZU l).length<=l.length*4:=Xv _ Yp _;rw[List.length_append,List.length_replicate];unfold Z0 at*;omega) hp;have hS2:=Z6i (Z0 l) (List.replicate j []) other (some (Z0 l).length) none hAl (by have:=XP d;have h2:=d.few;have:(ZU l).length<=l.length*4:=Xv _ Yp _;rw[List.length_append,List.length_replicate];unfold Z0 at*;omega) ho;conv=>whnf
 repeat'((first|refine AU ?_|(refine IW ?_ ?_<;>intro h<;>try(exfalso;omega)))<;>conv=>whnf)
 refine CALL.aA [3,1] (hS1) ?_;rintro r O nx ⟨T,hT,rfl,rfl,rfl⟩;obtain⟨b1,b2⟩:=Zf5 d hT;have hz1:((Z0 l).zip T).length=(Z0 l).length:=by rw[List.length_zip,hT.length_eq];omega
 have hR:=Z2s l [] none ((Z0 l).zip T) [] none hl (by unfold XM at hl;simp;omega) (by simp;omega);rw[List.append_nil,List.append_nil,hz1]at hR;conv=>whnf
 repeat'((first|refine AU ?_|(refine IW ?_ ?_<;>intro h<;>try(exfalso;omega)))<;>conv=>whnf)
 refine CALL.aA [0,4] (hR) ?_;rintro r O nx ⟨j2,hj2,rfl,rfl,rfl⟩;have dl:=d.few;generalize setL ZD (l.map (Xw ((Z0 l).zip T)))=b at b1 b2 hj2⊢;have db:=b1.vb.few;have qb:Z0H b:=ZgX b1.vb;have hF:=WA l [] b (List.replicate j2 YH) none (some b.length) 65536 (by omega) (by omega) ql qb (by simp;omega) (by rw[List.length_append,List.length_replicate];omega);rw[List.append_nil]at hF;conv=>whnf
 repeat'((first|refine AU ?_|(refine IW ?_ ?_<;>intro h<;>try(exfalso;omega)))<;>conv=>whnf)
 refine CALL.aA [0,5] (hF) ?_;rintro r O nx ⟨ps,e,hFi,rfl,rfl,rfl⟩;have hpl:=Zdm hFi;have he:=b1.find hFi;conv=>whnf
 repeat'((first|refine AU ?_|(refine IW ?_ ?_<;>intro h<;>try(exfalso;omega)))<;>conv=>whnf)
 refine CALL.aA [3,2] (hS2) ?_;rintro r O nx ⟨T2,hT2,rfl,rfl,rfl⟩;have hz2:((Z0 l).zip T2).length=(Z0 l).length:=by rw[List.length_zip,hT2.length_eq];omega
 have hck:=Z4N l [] b (List.replicate j2 YH) ((Z0 l).zip T2) [] none (some b.length) none hl (by unfold XM;omega) ql qb (by simp;omega) (by rw[List.length_append,List.length_replicate];omega) (by simp;omega);rw[List.append_nil,List.append_nil,hz2]at hck;conv=>whnf
 repeat'((first|refine CALL.value (WB _) rfl rfl ?_|refine AU ?_|(refine IW ?_ ?_<;>intro h<;>try(exfalso;omega)))<;>conv=>whnf)
 ·rcases he with⟨rfl,_⟩|he
  ·exact FIN.valueK h0 rfl rfl
  ·omega
 obtain rfl:e=0:=by omega
 refine CALL.aA [0,5,7] (hck) ?_;rintro r O nx ⟨rfl,rfl,rfl⟩;conv=>whnf
 repeat'((first|refine CALL.value (WB _) rfl rfl ?_|refine AU ?_|(refine IW ?_ ?_<;>intro h<;>try(exfalso;omega)))<;>conv=>whnf)
 all_goals first|exact FIN.valueK h0 rfl rfl|skip
 obtain⟨hlp,hle⟩:=Zdl hT2.length_eq (check_iff.1 ‹checkM l b ((Z0 l).zip T2)=0›) hFi;obtain⟨Q,hQ⟩:∃Q,Q=(Z0 l).zip T2:=⟨_,rfl⟩;rw[<-hQ]at hz2;simp only[<-hQ]at hle;refine LOOP.gok Z1 [11,13] [] (X:=Nat) (fun i=>i<=ps.length/\∀j (h1:j<ps.length) (h2:j<Q.length),j<i->ps[j].2=Q[j].2) (fun i=>[(14, .int .i64 (i:Int))]) (fun i=>[(6, .rows 2 (ps.map Xx)),(7, .rows 2 (Q.map Xx))]) 8 (fun i=>ps.length-i) 0 ⟨by omega,fun j _ _ h=>by omega⟩ ?_;conv=>whnf
 refine⟨by rw[hQ];exact GOES.kA h0 [3,4,5,6,7],?_⟩;rintro i ⟨hi,hb⟩;conv=>whnf
 by_cases hil:i<ps.length
 ·have hiq:i<Q.length:=by omega
  obtain⟨f1,f2⟩:=hle i hil hiq;have f2:=f2 fun j hj=>hb j (by omega) (by omega) hj;have gP:∀{k:Nat},k=i->(ps.map Xx)[k]?=some (Xx ps[i]):=fun e=>by subst e;rw[List.getElem?_map,List.getElem?_eq_getElem hil];rfl
  have gQ:∀{k:Nat},k=i->(Q.map Xx)[k]?=some (Xx Q[i]):=fun e=>by subst e;rw[List.getElem?_map,List.getElem?_eq_getElem hiq];rfl
  repeat'((first|(exact absurd f1 ‹_›)|(show DRAWN _ _ _ _ _ _ _;first|refine DRAWN.of (id:=15) Z1 mixed Z6j (by kernel_rfl) ?_|refine DRAWN.of (id:=17) Z1 mixed Z6j (by kernel_rfl) ?_|refine DRAWN.of (id:=18) Z1 mixed ZbN (by kernel_rfl) ?_)|refine ADD.mk (fun _ _=>?_)|refine AD ?_|refine FORK.mk ?_ ?_|(refine GET.at (gQ (by omega)) ?_;conv=>whnf)|(refine GET.at (gP (by omega)) ?_;conv=>whnf)|refine AU ?_|(refine IW ?_ ?_<;>intro h<;>try(exfalso;omega)))<;>conv=>whnf)
  ·refine FIN.valueK h0 rfl (congrArg SV.bool ?_);rw[Zah];exact decide_eq_true (f2 ‹_›)
  ·refine⟨i+1,⟨by omega,fun j h1 h2 h3=>?_⟩,by omega,?_⟩
   ·rcases Nat.lt_or_eq_of_le (Nat.le_of_lt_succ h3)with h4|h4
    ·exact hb j h1 h2 h4
    ·subst h4;assumption
   conv=>whnf
   exact GOES.kA h0 [3,4,5,6,7]
 ·have hie:i=ps.length:=by omega
  subst hie;repeat'((first|refine AU ?_|(refine IW ?_ ?_<;>intro h<;>try(exfalso;omega)))<;>conv=>whnf)
  exact FIN.valueK h0 rfl rfl
end Go.Proofs.YtbfbokdccdagkaaGreatDoor
