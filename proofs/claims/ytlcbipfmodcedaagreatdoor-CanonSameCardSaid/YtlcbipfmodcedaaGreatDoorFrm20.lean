/- Part 20: Prs. Conditions: as each part says. -/
import Derived.Test.YtlcbipfmodcedaaGreatDoorFrm7
set_option linter.unusedVariables false
set_option linter.unusedSimpArgs false
namespace Go.Proofs.YtlcbipfmodcedaaGreatDoor
open Go.Sx Go.Our
def Yu(p:Pr):List SV:=[.str p.1, .str p.2]
theorem VG(l:List Pr):Zj (l.map Yu)=true:=ZD _ (fun _=>rfl) l
instance :dZ Yu:=⟨fun _=>rfl⟩
theorem Zk7{l z:List Pr}{i k:Nat}(h:i<l.length)(e:k=i):((l++z).map Yu)[k]?=some (Yu l[i]):=by subst e;rw[z6,zn h,z1 h];rfl
end Go.Proofs.YtlcbipfmodcedaaGreatDoor
