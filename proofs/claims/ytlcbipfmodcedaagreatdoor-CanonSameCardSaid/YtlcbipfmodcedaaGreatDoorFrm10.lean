/- Part 10: Sets6, TermsG. Conditions: as each part says. -/
import Derived.Test.YtlcbipfmodcedaaGreatDoorFrm9
set_option linter.unusedVariables false
set_option linter.unusedSimpArgs false
set_option maxRecDepth 20000
set_option maxHeartbeats 8000000
namespace Go.Proofs.YtlcbipfmodcedaaGreatDoor
open Go.Sx Go.Our
end Go.Proofs.YtlcbipfmodcedaaGreatDoor
namespace Go.Proofs.YtlcbipfmodcedaaGreatDoor
open Go.Sx Go.Our
theorem MJ{K:Type}(f:Qd->List K){l:List Qd}{i:Nat}(h:i<l.length):(l.take (i+1)).flatMap f=(l.take i).flatMap f++f l[i]:=by
 rw[zH h,List.flatMap_append];simp
theorem FT{K:Type}(f:Qd->List K){k:Nat}(hk:∀q,(f q).length<=k):∀(l:List Qd),(l.flatMap f).length<=l.length*k
 | []=>by simp
 |q::l=>by
  have:=FT f hk l;have:=hk q;simp only[List.flatMap_cons,zh,List.length_cons,yC];omega
end Go.Proofs.YtlcbipfmodcedaaGreatDoor
