/- Part 19: KidD. Conditions: as each part says. -/
import Derived.Test.YtlcbipfmodcedaaGreatDoorCiso7
set_option linter.unusedVariables false
set_option linter.unusedSimpArgs false
namespace Go.Our
open Go Go.Sx
section
variable {K:Type}{es:Nat}{f:K->List SV}
def kD(es:Nat)(f:K->List SV)(ss:List (List K)):List (List DC):=ss.map fun l=>[.uC es (l.map f)]
theorem Ri[p:bu f]:∀ss:List (List K),ZD (kD es f ss)=true
 | []=>rfl
 |l::ss=>by simp only[kD,zL,ZD,Yi,Jl,ZN f p.h l,zS,xF];exact Ri ss
instance [bu f]{ss:List (List K)}:bQ (kD es f ss):=⟨Ri ss⟩
theorem Rj{ss:List (List K)}{i k:Nat}(h:i<ss.length)(hk:k=i):(kD es f ss)[k]?=some [.uC es (ss[i].map f)]:=by
 subst hk;unfold kD;rw[z7,z1 h];rfl
theorem Zgj{ss:List (List K)}{i k:Nat}{rows:List (List SV)}{n:Nat}{l:List K}(hk:k=i)(hr:rows.take n=l.map f):(kD es f ss).modify k (fun row=>row.set 0 (.uC es (rows.take n)))=kD es f (ss.set i l):=by
 subst hk;rw[hr];unfold kD;apply yj;intro a;rw[ym,z7,z7,xl];by_cases ha:k=a
 .subst ha;rw[z8 rfl];cases h:ss[k]? with
  |none=>rw[z6 (by rw[List.getElem?_eq_none_iff]at h;omega)];simp
  |some x=>rw[z8 (zg.1 h).1];simp
 .rw[z6 ha];cases ss[a]?<;>simp[ha]
theorem HV{ss:List (List K)}{i k:Nat}{sv:SV}(h:i<ss.length)(hk:k=i):(uw (kD es f ss) k 0 (.v sv))[i]?=some [.v sv]:=by
 subst hk;rw[Y1,z8 rfl,Rj h rfl];rfl
theorem Rk{ss:List (List K)}{i k n:Nat}{sv:SV}(h:i<ss.length)(hk:k=i)(hn:n=ss[i].length):uw (uw (kD es f ss) k 0 (.v sv)) i 0 (.uC es ((ss[i].map f).take n))=kD es f ss:=by
 subst hk hn;rw[qy,zo (by rw[zj];exact zn _)];apply yj;intro a;rw[Y1];by_cases ha:a=k
 subst ha;rw[z8 rfl,Rj h rfl];rfl;rw[z6 ha]
end
end Go.Our
