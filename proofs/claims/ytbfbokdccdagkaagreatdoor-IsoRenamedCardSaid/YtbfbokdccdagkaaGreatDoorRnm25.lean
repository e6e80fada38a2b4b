/- Part 25: LawRel, LawLst. Conditions: as each part says. -/
import Derived.Test.YtbfbokdccdagkaaGreatDoorRnm22
import Derived.Test.YtbfbokdccdagkaaGreatDoorRnm24
set_option linter.unusedVariables false
set_option linter.unusedSimpArgs false
set_option maxRecDepth 20000
set_option maxHeartbeats 8000000
namespace Go.Proofs.YtbfbokdccdagkaaGreatDoor
open Go.Sx Go.Our
theorem ZfM(A B:List LB)(zs:List Nat):(prsM A B zs).length<=A.length:=by unfold prsM;rw[List.length_zipWith];omega
theorem ZdR{a b:List Qd}{budget:Int}{ps:List Pr}{e:Int}(h:FindIs a b budget ps e):ps.length<=4194304:=by
 rcases h with⟨_,rfl,_⟩|⟨_,_,rfl,_⟩|⟨hv,_,F,c,_,he⟩
 ·simp
 ·simp
 ·have hA:=XT (JF hv).1;unfold Z59 at he;split at he
  ·split at he<;>injection he with h1 h2
   ·rw[h1];exact Nat.le_trans (ZfM _ _ _) hA
   ·rw[h1];simp
   ·rw[h1];simp
  ·injection he with h1 h2;rw[h1];simp
end Go.Proofs.YtbfbokdccdagkaaGreatDoor
namespace Go.Proofs.YtbfbokdccdagkaaGreatDoor
open Go.Sx Go.Our
theorem ZhF{l:List Qd}(d:DsOK l):Z0V l:=fun q hq=>by
 obtain⟨t1,t2,t3,t4⟩:=Zfz (d.ck q hq);unfold TmOK at t1 t2 t3 t4;refine⟨?_,?_,?_,?_⟩<;>(unfold TmSm;omega)
end Go.Proofs.YtbfbokdccdagkaaGreatDoor
