/- Part 25: LawRel. Conditions: as each part says. -/
import Derived.Test.YtbfbokdccdagkaaGreatDoorRel22
import Derived.Test.YtbfbokdccdagkaaGreatDoorRel24
set_option linter.unusedVariables false
set_option linter.unusedSimpArgs false
set_option maxRecDepth 20000
set_option maxHeartbeats 8000000
namespace Go.Proofs.YtbfbokdccdagkaaGreatDoor
open Go.Sx Go.Our
open Tryz
def Z6f:Plan:=(ZV [(0,1),(1,1),(2,1),(3,1),(5,1),(6,1),(7,1),(8,1),(4,2),(9,2),(10,1)])
def Z6g:Plan:=(ZV [(0,1),(1,1),(2,1),(3,1),(4,1),(6,1),(7,1),(8,1),(9,1),(5,2),(10,2),(11,1),(12,3),(13,0),(14,1)])
theorem ZeT(A B:List LB)(zs:List Nat):(prsM A B zs).length<=A.length:=by unfold prsM;rw[List.length_zipWith];omega
theorem Z8h{a b:List Qd}{budget:Int}{ps:List Pr}{e:Int}(h:FindIs a b budget ps e):ps.length<=4194304:=by
 rcases h with⟨_,rfl,_⟩|⟨_,_,rfl,_⟩|⟨hv,_,F,c,_,he⟩
 ·simp
 ·simp
 ·have hA:=JS (Jx hv).1;unfold Z4O at he;split at he
  ·split at he<;>injection he with h1 h2
   ·rw[h1];exact Nat.le_trans (ZeT _ _ _) hA
   ·rw[h1];simp
   ·rw[h1];simp
  ·injection he with h1 h2;rw[h1];simp
theorem ZbM{p q:List Pr}{i:Nat}(h:i<p.length):VU (p.take (i+1)) q=VU (p.take i) q++ [(p[i].1,(toOf q p[i].2).getD [])]:=by
 unfold VU;rw[List.take_succ_eq_append_getElem h,List.map_append];rfl
set_option maxHeartbeats 16000000 in
theorem Z7f(a b c:List Qd)(ha:XI a)(hb:XI b)(hc:XI c)(qa:WX a)(qb:WX b)(qc:WX c):Does prog tab 9 3 [.sl (.loc 0) 0 16 a.length none, .sl (.loc 1) 0 16 b.length none, .sl (.loc 2) 0 16 c.length none] [] [(0, .rows 16 (a.map Zk)),(1, .rows 16 (b.map Zk)),(2, .rows 16 (c.map Zk))] (ValK 3 (.bool true)):=by
 unfold XI at ha hb hc
 have fnd:∀{x y:List Qd},x.length*224<=140737488351232->y.length*224<=140737488351232->WX x->WX y->Does prog tab 23 2 [.sl (.loc 0) 0 16 x.length none, .sl (.loc 1) 0 16 y.length none, .int .i64 65536] [] [(0, .rows 16 (x.map Zk)),(1, .rows 16 (y.map Zk))] (FdQ x y 65536):=fun{x y} hx hy sx sy=>by
  have:=Wy x [] y [] none none 65536 (by omega) (by omega) sx sy (by simp;omega) (by simp;omega);rwa [List.append_nil,List.append_nil]at this
 have hab:=fnd ha hb qa qb;have hba:=fnd hb ha qb qa;have hbc:=fnd hb hc qb qc;have hac:=fnd ha hc qa qc;refine Does.enter Z1 call9 func9 rfl 123 rfl rfl [.tmp 6] rfl ?_;intro w0 F η0 h0;conv=>whnf
 repeat'((first|refine CALL.value (Z9g) rfl rfl ?_|refine AU ?_|(refine IW ?_ ?_<;>intro h<;>try(exfalso;omega)))<;>conv=>whnf)
 refine CALL.aA [0,1] (hab) ?_;rintro r O nx ⟨p,e,hp,rfl,rfl,rfl⟩;have hpl:=Z8h hp;conv=>whnf
 repeat'((first|refine AU ?_|(refine IW ?_ ?_<;>intro h<;>try(exfalso;omega)))<;>conv=>whnf)
 refine CALL.aA [1,0] (hba) ?_;rintro r O nx ⟨p',f,hf,rfl,rfl,rfl⟩;conv=>whnf
 repeat'((first|refine AU ?_|(refine IW ?_ ?_<;>intro h<;>try(exfalso;omega)))<;>conv=>whnf)
 refine CALL.aA [1,2] (hbc) ?_;rintro r O nx ⟨q,g,hq,rfl,rfl,rfl⟩;have hql:=Z8h hq
 have x1:e=0->f≠140:=fun h1 h2=>by
  subst h1 h2;rcases(Z17 hp).turn.find hf with⟨h,_⟩|h<;>omega
 have x2:f=0->e≠140:=fun h1 h2=>by
  subst h1 h2;rcases(Z17 hf).turn.find hp with⟨h,_⟩|h<;>omega
 have x3:e=0->g=0->Bij a b p/\Bij b c q:=fun h1 h2=>by
  subst h1 h2;exact⟨Z17 hp,Z17 hq⟩
 conv=>whnf
 repeat'((first|refine CALL.value (Z2x _) rfl rfl ?_|refine AU ?_|(refine IW ?_ ?_<;>intro h<;>try(exfalso;omega)))<;>conv=>whnf)
 all_goals first|exact FIN.valueK h0 rfl rfl|skip
 obtain⟨bp,bq⟩:=x3 (by omega) (by omega);refine LOOP.nil 13 2 rfl ?_;refine LOOP.gok Z1 [0,2,7,11] [] (X:=Nat) (fun i=>i<=p.length) (fun i=>[(14, .int .i64 (i:Int)),(13, .sl (.loc 6) 0 2 i none)]) (fun i=>[(3, .rows 2 (p.map Xs)),(5, .rows 2 (q.map Xs)),(6, .rows 2 ((VU (p.take i) q).map Xs))]) 7 (fun i=>p.length-i) 0 (by omega) ?_;conv=>whnf
 refine⟨by exact GOES.kA h0 [3,4,5,6],?_⟩;intro i hi;conv=>whnf
 by_cases hil:i<p.length
 ·have hm:p[i].2∈q.map Prod.fst:=bq.fs.symm.mem_iff.1 (bp.sn.mem_iff.1 (List.mem_map.2 ⟨_,List.getElem_mem hil,rfl⟩));have hnd:(q.map Prod.fst).Nodup:=bq.fs.symm.nodup (X2 b);obtain⟨j,hj,hje⟩:=List.mem_iff_getElem.1 hm;rw[List.length_map]at hj;rw[List.getElem_map]at hje;have hto:toOf q p[i].2=some q[j].2:=Vs hnd (by rw[<-hje];exact List.getElem_mem hj);have hct:=ZbM (q:=q) hil;rw[hto,Option.getD_some]at hct;have hcl:(VU (p.take i) q).length=i:=by unfold VU;rw[List.length_map,List.length_take];omega
  generalize VU (p.take i) q=R at hct hcl⊢;have gP:∀{k:Nat},k=i->(p.map Xs)[k]?=some (Xs p[i]):=fun e=>by subst e;rw[List.getElem?_map,List.getElem?_eq_getElem hil];rfl
  have gQ:∀{k m:Nat},k=m->(hm:m<q.length)->(q.map Xs)[k]?=some (Xs q[m]):=fun e hm=>by subst e;rw[List.getElem?_map,List.getElem?_eq_getElem hm];rfl
  have hne:∀k (hk:k<q.length),q[k].1=p[i].2->k=j:=fun k hk e=>by
   exact(List.getElem_inj (h₀:=by rw[List.length_map];exact hk) (h₁:=by rw[List.length_map];exact hj) hnd).1 (by rw[List.getElem_map,List.getElem_map,e,hje])
  repeat'((first|refine AU ?_|(refine IW ?_ ?_<;>intro h<;>try(exfalso;omega)))<;>conv=>whnf)
  refine LOOP.gok Z1 [0,2,7,11,14] [] (X:=Nat) (fun k=>k<=q.length) (fun k=>[(15, .int .i64 (k:Int)),(13, .sl (.loc 6) 0 2 (if j<k then i+1 else i) none)]) (fun k=>[(3, .rows 2 (p.map Xs)),(5, .rows 2 (q.map Xs)),(6, .rows 2 ((R++if j<k then [(p[i].1,q[j].2)]else []).map Xs))]) 7 (fun k=>q.length-k) 0 (by omega) ?_;conv=>whnf
  refine⟨by rw[if_neg (by omega),if_neg (by omega),List.append_nil];exact GOES.kA h0 [3,4,5,6],?_⟩;intro k hk;conv=>whnf
  by_cases hkl:k<q.length
  ·have hcmp:=hne k hkl;by_cases hjk:j<k
   ·simp only[if_pos hjk];repeat'((first|(exfalso;have hx:=hcmp ‹_›;omega)|(show DRAWN _ _ _ _ _ _ _;first|refine DRAWN.of (id:=17) Z1 mixed Z6f (by kernel_rfl) ?_|refine DRAWN.of (id:=18) Z1 mixed Z6g (by kernel_rfl) ?_)|refine ADD.mk (fun _ _=>?_)|refine AD ?_|refine FORK.mk ?_ ?_|(refine GET.at (gQ (by omega) hkl) ?_;conv=>whnf)|(refine GET.at (gP (by omega)) ?_;conv=>whnf)|refine AU ?_|(refine IW ?_ ?_<;>intro h<;>try(exfalso;omega)))<;>conv=>whnf)
    ·refine⟨k+1,by omega,by omega,?_⟩;rw[if_pos (by omega),if_pos (by omega)];conv=>whnf
     exact GOES.kA h0 [3,4,5,6]
   ·simp only[if_neg hjk,List.append_nil];repeat'((first|(show DRAWN _ _ _ _ _ _ _;first|refine DRAWN.of (id:=17) Z1 mixed Z6f (by kernel_rfl) ?_|refine DRAWN.of (id:=18) Z1 mixed Z6g (by kernel_rfl) ?_)|refine ADD.mk (fun _ _=>?_)|refine AD ?_|refine FORK.mk ?_ ?_|(refine GET.at (gQ (by omega) hkl) ?_;conv=>whnf)|(refine GET.at (gP (by omega)) ?_;conv=>whnf)|(refine NEED.mk (Ym 32 rfl rfl (by simp) (by simp;omega) (by omega)) ?_;conv=>whnf)|refine AU ?_|(refine IW ?_ ?_<;>intro h<;>try(exfalso;omega)))<;>conv=>whnf)
    ·obtain rfl:=hcmp ‹_›;subst hcl;refine⟨k+1,by omega,by omega,?_⟩;rw[if_pos (by omega),if_pos (by omega)];conv=>whnf
     exact GOES.kA h0 [3,4,5,8]
    ·have:k≠j:=fun e=>by subst e;exact absurd hje ‹_›
     refine⟨k+1,by omega,by omega,?_⟩;rw[if_neg (by omega),if_neg (by omega),List.append_nil];conv=>whnf
     exact GOES.kA h0 [3,4,5,6]
  ·have hke:k=q.length:=by omega
   subst hke;repeat'((first|refine AU ?_|(refine IW ?_ ?_<;>intro h<;>try(exfalso;omega)))<;>conv=>whnf)
   refine⟨i+1,by omega,by omega,?_⟩;rw[hct,if_pos hj,if_pos hj];conv=>whnf
   exact GOES.kA h0 [3,4,5,6]
 ·have hie:i=p.length:=by omega
  subst hie;rw[List.take_length];have hcl:(VU p q).length=p.length:=by unfold VU;rw[List.length_map]
  have bc:=bp.comp bq;have hck:=Z4S a [] c [] (VU p q) [] none none none (by unfold XI;omega) (by unfold XI;omega) qa qc (by simp;omega) (by simp;omega) (by simp;omega);rw[List.append_nil,List.append_nil,List.append_nil,check_iff.2 bc,hcl]at hck;repeat'((first|refine AU ?_|(refine IW ?_ ?_<;>intro h<;>try(exfalso;omega)))<;>conv=>whnf)
  refine CALL.aA [0,2] (hac) ?_;rintro r O nx ⟨ps,h9,hF,rfl,rfl,rfl⟩;have x4:h9=0\/h9=4:=by rcases bc.find hF with⟨h,_⟩|h<;>omega
  conv=>whnf
  repeat'((first|refine AU ?_|(refine IW ?_ ?_<;>intro h<;>try(exfalso;omega)))<;>conv=>whnf)
  refine CALL.aA [0,2,6] (hck) ?_;rintro r O nx ⟨rfl,rfl,rfl⟩;conv=>whnf
  repeat'((first|refine CALL.value (Z2x _) rfl rfl ?_|refine AU ?_|(refine IW ?_ ?_<;>intro h<;>try(exfalso;omega)))<;>conv=>whnf)
  ·exact FIN.valueK h0 rfl rfl
  ·obtain rfl:h9=4:=by omega
   exact FIN.valueK h0 rfl rfl
end Go.Proofs.YtbfbokdccdagkaaGreatDoor
