/- Part 12: Sets6, TermsG. Conditions: as each part says. -/
import Derived.Test.YtlcbipfmodcedaaGreatDoorRfn11
set_option linter.unusedVariables false
set_option linter.unusedSimpArgs false
set_option maxRecDepth 20000
set_option maxHeartbeats 8000000
namespace Go.Proofs.YtlcbipfmodcedaaGreatDoor
open Go.Sx Go.Our
end Go.Proofs.YtlcbipfmodcedaaGreatDoor
namespace Go.Proofs.YtlcbipfmodcedaaGreatDoor
open Go.Sx Go.Our
theorem Z7s{α:Type}(f:Qd->List α){l:List Qd}{i:Nat}(h:i<l.length):(l.take (i+1)).flatMap f=(l.take i).flatMap f++f l[i]:=by
 rw[List.take_succ_eq_append_getElem h,List.flatMap_append];simp
theorem Z2p{α:Type}(f:Qd->List α){k:Nat}(hk:∀q,(f q).length<=k):∀(l:List Qd),(l.flatMap f).length<=l.length*k
 | []=>by simp
 |q::l=>by
  have:=Z2p f hk l;have:=hk q;simp only[List.flatMap_cons,List.length_append,List.length_cons,Nat.succ_mul];omega
end Go.Proofs.YtlcbipfmodcedaaGreatDoor
