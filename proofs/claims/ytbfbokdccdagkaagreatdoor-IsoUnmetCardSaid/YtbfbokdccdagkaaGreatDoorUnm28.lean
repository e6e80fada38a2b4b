/- Part 28: LawUnm. Conditions: as each part says. -/
import Derived.Test.YtbfbokdccdagkaaGreatDoorUnm26
import Derived.Test.YtbfbokdccdagkaaGreatDoorUnm27
set_option linter.unusedVariables false
set_option linter.unusedSimpArgs false
set_option maxRecDepth 20000
set_option maxHeartbeats 8000000
namespace Go.Proofs.YtbfbokdccdagkaaGreatDoor
open Go.Sx Go.Our
open Tryz
def J6:Plan:=(ZU [(0,1),(1,1),(2,1),(3,1),(4,1),(5,1),(6,1),(7,1),(9,1),(10,1),(11,1),(8,2),(12,2),(13,1),(14,1)])
def WP:Plan:=(ZU [(0,1),(1,1),(2,1),(3,1),(4,1),(5,1),(6,1),(7,1),(8,1),(10,1),(11,1),(12,1),(9,2),(13,2),(14,1),(15,1)])
def WQ:Plan:=(ZU [(0,1),(1,1),(2,1),(3,1),(5,1),(6,1),(7,1),(4,2),(8,2),(9,1),(10,3),(11,0),(12,1)])
set_option maxHeartbeats 16000000 in
theorem Z7B(a b:List Qd)(ha:Xf a)(hb:Xf b)(qa:W2 a)(qb:W2 b):Does prog tab 10 2 [.sl (.loc 0) 0 16 a.length none, .sl (.loc 1) 0 16 b.length none] [] [(0, .rows 16 (a.map Zl)),(1, .rows 16 (b.map Zl))] (ValK 2 (.bool true)):=by
 have ha':=ha;have hb':=hb;unfold Xf at ha' hb';have hA:=Z9m a [] b [] none none ha hb qa qb (by simp;omega) (by simp;omega);have hBa:=Yd a [] none ha (by simp;omega);have hBb:=Yd b [] none hb (by simp;omega);rw[List.append_nil,List.append_nil]at hA;rw[List.append_nil]at hBa hBb;refine Does.enter Z1 call10 func10 rfl 128 rfl rfl [.tmp 4] rfl ?_;intro w0 F η0 h0;conv=>whnf
 repeat'((first|refine CALL.value (Z9F) rfl rfl ?_|refine AU ?_|(refine IW ?_ ?_<;>intro h<;>try(exfalso;omega)))<;>conv=>whnf)
 refine CALL.aA [0,1] (hA) ?_;rintro r O nx (⟨hv,rfl,rfl,rfl⟩|⟨hv,(⟨hn,rfl,rfl,rfl⟩|⟨ps,hps,rfl,rfl,rfl⟩)⟩)
 ·conv=>whnf
  repeat'((first|refine CALL.value (U4 _) rfl rfl ?_|refine AU ?_|(refine IW ?_ ?_<;>intro h<;>try(exfalso;omega)))<;>conv=>whnf)
  exact FIN.valueK h0 rfl rfl
 ·conv=>whnf
  repeat'((first|refine CALL.value (U4 _) rfl rfl ?_|refine AU ?_|(refine IW ?_ ?_<;>intro h<;>try(exfalso;omega)))<;>conv=>whnf)
  exact FIN.valueK h0 rfl rfl
 obtain⟨dA,dB⟩:=U2 hv;obtain⟨hfs,hbj,hno⟩:=ZdS dA dB hps;have hpl:ps.length=(ownB (Z0 a) (Z0 b)).length:=by rw[<-hfs,List.length_map]
 have hBl:=Ja dB;have hol:(ownB (Z0 a) (Z0 b)).length<=(Z0 b).length:=List.length_filter_le _ _;have hR:=Z2K b [] none ps [] none hb (by simp;omega) (by simp;omega);rw[List.append_nil,List.append_nil]at hR;conv=>whnf
 repeat'((first|refine CALL.value (U4 _) rfl rfl ?_|refine AU ?_|(refine IW ?_ ?_<;>intro h<;>try(exfalso;omega)))<;>conv=>whnf)
 refine CALL.aA [1,2] (hR) ?_;rintro r O nx ⟨j,hj,rfl,rfl,rfl⟩;generalize setL ZH (b.map (XB ps))=c at hbj hno hj⊢;have dl:=dB.few;have dc:=hbj.vb.few;have qc:W2 c:=Zhq hbj.vb;have hBc:=Yd c (List.replicate j Yv) (some c.length) (by unfold Xf;omega) (by rw[List.length_append,List.length_replicate];omega);conv=>whnf
 repeat'((first|refine AU ?_|(refine IW ?_ ?_<;>intro h<;>try(exfalso;omega)))<;>conv=>whnf)
 refine CALL.aA [0] (hBa) ?_;rintro r O nx ⟨j2,hj2,rfl,rfl,rfl⟩;conv=>whnf
 repeat'((first|refine AU ?_|(refine IW ?_ ?_<;>intro h<;>try(exfalso;omega)))<;>conv=>whnf)
 refine CALL.aA [3] (hBc) ?_;rintro r O nx ⟨j3,hj3,rfl,rfl,rfl⟩;conv=>whnf
 repeat'((first|refine AU ?_|(refine IW ?_ ?_<;>intro h<;>try(exfalso;omega)))<;>conv=>whnf)
 obtain⟨old,hOld⟩:∃x,x=Z0 a:=⟨_,rfl⟩;obtain⟨now,hNow⟩:∃x,x=Z0 c:=⟨_,rfl⟩;have hol2:old.length<=4194304:=by rw[hOld];exact Ja dA
 have hnl2:now.length<=4194304:=by rw[hNow];exact Ja hbj.vb
 have hne:∀i j (h1:i<now.length) (h2:j<old.length),old[j]≠now[i]:=fun i j h1 h2 e=>hno now[i] (by rw[<-hNow];exact List.getElem_mem h1) (by rw[<-hOld,<-e];exact List.getElem_mem h2);refine LOOP.gok Z1 [1,5,7,8,9] [] (X:=Nat×Nat) (fun x=>x.1<=now.length/\x.2<=old.length) (fun x=>[(11, .int .i64 (x.1:Int)),(10, .int .i64 (x.2:Int))]) (fun x=>[(2, .rows 2 (ps.map XC)),(3, .rows 16 ((c++List.replicate j Yv).map Zl)),(4, .rows 1 ((old++List.replicate j2 []).map Z3)),(5, .rows 1 ((now++List.replicate j3 []).map Z3))]) 6 (fun x=>now.length-x.1) (0,0) ⟨by simp,by simp⟩ ?_;conv=>whnf
 refine⟨by rw[hOld,hNow];exact GOES.kA h0 [2,3,4,5],?_⟩;rintro⟨i,k⟩ ⟨hi,hk⟩;dsimp only at hi hk⊢;have hNl:(setL cmpL (ZD c)).length=now.length:=by rw[hNow]
 have hOl:(setL cmpL (ZD a)).length=old.length:=by rw[hOld]
 conv=>whnf
 by_cases hil:i<now.length
 ·have gN:∀{m:Nat},m=i->((now++List.replicate j3 []).map Z3)[m]?=some (Z3 now[i]):=fun e=>by subst e;rw[List.getElem?_map,List.getElem?_append_left hil,List.getElem?_eq_getElem hil];rfl
  have gO:∀{m k:Nat} (h:k<old.length),m=k->((old++List.replicate j2 []).map Z3)[m]?=some (Z3 old[k]):=fun h e=>by subst e;rw[List.getElem?_map,List.getElem?_append_left h,List.getElem?_eq_getElem h];rfl
  repeat'((first|refine AU ?_|(refine IW ?_ ?_<;>intro h<;>try(exfalso;omega)))<;>conv=>whnf)
  refine LOOP.gok Z1 [1,5,7,8,9,11] [] (X:=Nat) (fun k=>k<=old.length) (fun k=>[(10, .int .i64 (k:Int))]) (fun k=>[(2, .rows 2 (ps.map XC)),(3, .rows 16 ((c++List.replicate j Yv).map Zl)),(4, .rows 1 ((old++List.replicate j2 []).map Z3)),(5, .rows 1 ((now++List.replicate j3 []).map Z3))]) 6 (fun k=>old.length-k) k hk ?_;conv=>whnf
  refine⟨by exact GOES.kA h0 [2,3,4,5],?_⟩;intro k hk;conv=>whnf
  by_cases hkl:k<old.length
  ·have hx:=hne i k hil hkl;repeat'((first|(exact(hx ‹_›).elim)|(show DRAWN _ _ _ _ _ _ _;first|refine DRAWN.of (id:=13) Z1 mixed J6 (by kernel_rfl) ?_|refine DRAWN.of (id:=15) Z1 mixed J6 (by kernel_rfl) ?_|refine DRAWN.of (id:=23) Z1 mixed WP (by kernel_rfl) ?_|refine DRAWN.of (id:=25) Z1 mixed WQ (by kernel_rfl) ?_)|refine ADD.mk (fun _ _=>?_)|refine AD ?_|refine FORK.mk ?_ ?_|(refine GET.at (gO hkl (by omega)) ?_;conv=>whnf)|(refine GET.at (gN (by omega)) ?_;conv=>whnf)|refine AU ?_|(refine IW ?_ ?_<;>intro h<;>try(exfalso;omega)))<;>conv=>whnf)
   ·refine⟨k+1,by omega,by omega,?_⟩;conv=>whnf
    exact GOES.kA h0 [2,3,4,5]
   ·refine⟨(i+1,k),⟨by dsimp only;omega,hk⟩,by dsimp only;omega,?_⟩;dsimp only;conv=>whnf
    exact GOES.kA h0 [2,3,4,5]
  ·repeat'((first|(show DRAWN _ _ _ _ _ _ _;first|refine DRAWN.of (id:=13) Z1 mixed J6 (by kernel_rfl) ?_|refine DRAWN.of (id:=15) Z1 mixed J6 (by kernel_rfl) ?_|refine DRAWN.of (id:=23) Z1 mixed WP (by kernel_rfl) ?_|refine DRAWN.of (id:=25) Z1 mixed WQ (by kernel_rfl) ?_)|refine ADD.mk (fun _ _=>?_)|refine AD ?_|refine FORK.mk ?_ ?_|refine AU ?_|(refine IW ?_ ?_<;>intro h<;>try(exfalso;omega)))<;>conv=>whnf)
   refine⟨(i+1,k),⟨by dsimp only;omega,hk⟩,by dsimp only;omega,?_⟩;dsimp only;conv=>whnf
   exact GOES.kA h0 [2,3,4,5]
 ·repeat'((first|refine AU ?_|(refine IW ?_ ?_<;>intro h<;>try(exfalso;omega)))<;>conv=>whnf)
  refine CALL.aA [1] (hBb) ?_;rintro r O nx ⟨j4,hj4,rfl,rfl,rfl⟩;obtain⟨A,hAd⟩:∃x,x=Z0 a:=⟨_,rfl⟩;obtain⟨B,hBd⟩:∃x,x=Z0 b:=⟨_,rfl⟩;have hBL:(setL cmpL (ZD b)).length=B.length:=by rw[hBd]
  rw[<-hAd,<-hBd]at hfs hpl hol hbj;rw[<-hBd]at hBl;conv=>whnf
  repeat'((first|refine AU ?_|(refine IW ?_ ?_<;>intro h<;>try(exfalso;omega)))<;>conv=>whnf)
  refine LOOP.gok Z1 [1,5,7,13] [] (X:=Nat) (fun i=>i<=B.length) (fun i=>[(15, .int .i64 (i:Int)),(14, .int .i64 ((ownB A (B.take i)).length:Int)),(12, .sl (.loc 7) 0 2 (ps++dupP (XA A (B.take i))).length none)]) (fun i=>[(2, .rows 2 (ps.map XC)),(3, .rows 16 ((c++List.replicate j Yv).map Zl)),(7, .rows 2 ((ps++dupP (XA A (B.take i))).map XC)),(8, .rows 1 ((B++List.replicate j4 []).map Z3))]) 9 (fun i=>B.length-i) 0 (by omega) ?_;conv=>whnf
  have e0:ownB A (B.take 0)=[]:=by rw[List.take_zero];rfl
  have e1:ps++dupP (XA A (B.take 0))=ps:=by rw[List.take_zero];unfold XA dupP;simp
  refine⟨by rw[e0,e1,hBd];exact GOES.kA h0 [2,3,4,5,6,7,8],?_⟩;clear e0 e1;intro i hi;have hpre:∀i,i<=B.length->ownB A B=ownB A (B.take i)++ownB A (B.drop i):=fun i _=>by unfold ownB;rw[<-List.filter_append,List.take_append_drop]
  conv=>whnf
  by_cases hil:i<B.length
  ·have gB:∀{m:Nat},m=i->((B++List.replicate j4 []).map Z3)[m]?=some (Z3 B[i]):=fun e=>by subst e;rw[List.getElem?_map,List.getElem?_append_left hil,List.getElem?_eq_getElem hil];rfl
   have gP:∀{m k:Nat} (h:k<ps.length),m=k->(ps.map XC)[m]?=some (XC ps[k]):=fun h e=>by subst e;rw[List.getElem?_map,List.getElem?_eq_getElem h];rfl
   have hs:=Z5G (A:=A) hil
   have hr:XA A (B.take (i+1))=if B[i]∈A then XA A (B.take i)else XA A (B.take i)++ [B[i]]:=by
    unfold XA;rw[List.take_succ_eq_append_getElem hil,List.filter_append,List.filter_cons,List.filter_nil];by_cases e:B[i]∈A<;>simp[e]
   have hol1:(ownB A (B.take i)).length<=i:=Nat.le_trans (List.length_filter_le _ _) (by rw[List.length_take];omega);have hrl1:(XA A (B.take i)).length<=i:=Nat.le_trans (List.length_filter_le _ _) (by rw[List.length_take];omega);have hp0:=hpre i (by omega);have hp1:=hpre (i+1) (by omega);have hDl:(ps++dupP (XA A (B.take i))).length<=8388608:=by unfold dupP;rw[List.length_append,List.length_map];omega
   by_cases hm:B[i]∈A
   ·rw[if_pos hm]at hs hr
    have hkl:(ownB A (B.take i)).length<ps.length:=by
     rw[hpl,hp1,hs];simp only[List.length_append,List.length_singleton];omega
    have hk1:(ps[(ownB A (B.take i)).length]'hkl).1=B[i]:=by
     have e1:(ps.map Prod.fst)[(ownB A (B.take i)).length]?=some B[i]:=by
      rw[hfs,hp1,hs,List.append_assoc,List.getElem?_append_right (Nat.le_refl _)];simp
     rw[List.getElem?_map,List.getElem?_eq_getElem hkl]at e1;injection e1
    have hsl:(ownB A (B.take (i+1))).length=(ownB A (B.take i)).length+1:=by rw[hs];simp
    generalize(ownB A (B.take i)).length=K at hsl hkl hk1 hol1⊢;generalize hDD:ps++dupP (XA A (B.take i))=D at hDl⊢;repeat'((first|(exact absurd hk1 ‹_›)|(show DRAWN _ _ _ _ _ _ _;first|refine DRAWN.of (id:=13) Z1 mixed J6 (by kernel_rfl) ?_|refine DRAWN.of (id:=15) Z1 mixed J6 (by kernel_rfl) ?_|refine DRAWN.of (id:=23) Z1 mixed WP (by kernel_rfl) ?_|refine DRAWN.of (id:=25) Z1 mixed WQ (by kernel_rfl) ?_)|refine ADD.mk (fun _ _=>?_)|refine AD ?_|refine FORK.mk ?_ ?_|(refine GET.at (gP hkl (by omega)) ?_;conv=>whnf)|(refine GET.at (gB (by omega)) ?_;conv=>whnf)|refine AU ?_|(refine IW ?_ ?_<;>intro h<;>try(exfalso;omega)))<;>conv=>whnf)
    refine⟨i+1,by omega,by omega,?_⟩;rw[hsl,hr,hDD];conv=>whnf
    exact GOES.kA h0 [2,3,4,5,6,7,8]
   ·rw[if_neg hm]at hs hr;have hsl:(ownB A (B.take (i+1))).length=(ownB A (B.take i)).length:=by rw[hs]
    have hDs:ps++dupP (XA A (B.take (i+1)))=(ps++dupP (XA A (B.take i)))++ [(B[i],B[i])]:=by rw[hr];unfold dupP;rw[List.map_append,List.append_assoc];rfl
    have hk2:∀k (h:k<ps.length),ps[k].1≠B[i]:=fun k h e=>by
     have:ps[k].1∈ownB A B:=by rw[<-hfs];exact List.mem_map.2 ⟨_,List.getElem_mem h,rfl⟩
     rw[e]at this;exact hm (by simpa using(List.mem_filter.1 this).2)
    generalize(ownB A (B.take i)).length=K at hsl hol1⊢;generalize ps++dupP (XA A (B.take i))=D at hDl hDs⊢;repeat'((first|(show DRAWN _ _ _ _ _ _ _;first|refine DRAWN.of (id:=13) Z1 mixed J6 (by kernel_rfl) ?_|refine DRAWN.of (id:=15) Z1 mixed J6 (by kernel_rfl) ?_|refine DRAWN.of (id:=23) Z1 mixed WP (by kernel_rfl) ?_|refine DRAWN.of (id:=25) Z1 mixed WQ (by kernel_rfl) ?_)|refine ADD.mk (fun _ _=>?_)|refine AD ?_|refine FORK.mk ?_ ?_|(refine GET.at (gP (k:=K) (by omega) (by omega)) ?_;conv=>whnf)|(refine GET.at (gB (by omega)) ?_;conv=>whnf)|(refine NEED.mk (Yc 32 rfl rfl (by simp) (by simp) (by omega)) ?_;conv=>whnf)|refine AU ?_|(refine IW ?_ ?_<;>intro h<;>try(exfalso;omega)))<;>conv=>whnf)
    ·have hy:ps[K].1=B[i]:= ‹_›;exact absurd hy (hk2 K (by omega))
    all_goals
     refine⟨i+1,by omega,by omega,?_⟩;rw[hsl,hDs];conv=>whnf
     exact GOES.kA h0 [2,3,4,5,6,10,8]
  ·have hie:i=B.length:=by omega
   subst hie;rw[List.take_of_length_le (Nat.le_refl _)]
   have hDl:(ps++dupP (XA A B)).length<=8388608:=by
    have:(XA A B).length<=B.length:=List.length_filter_le _ _;unfold dupP;rw[List.length_append,List.length_map];omega
   have hck:=Z53 b [] c (List.replicate j Yv) (ps++dupP (XA A B)) [] none (some c.length) none hb (by unfold Xf;omega) qb qc (by simp;omega) (by rw[List.length_append,List.length_replicate];omega) (by rw[List.append_nil];omega);rw[List.append_nil,List.append_nil,check_iff.2 hbj]at hck;repeat'((first|refine AU ?_|(refine IW ?_ ?_<;>intro h<;>try(exfalso;omega)))<;>conv=>whnf)
   ·refine CALL.aA [1,3,7] (hck) ?_;rintro r O nx ⟨rfl,rfl,rfl⟩;conv=>whnf
    repeat'((first|refine CALL.value (U4 _) rfl rfl ?_|refine AU ?_|(refine IW ?_ ?_<;>intro h<;>try(exfalso;omega)))<;>conv=>whnf)
    exact FIN.valueK h0 rfl rfl
end Go.Proofs.YtbfbokdccdagkaaGreatDoor
