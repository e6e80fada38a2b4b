/- Part 43: GroupM. Conditions: as each part says. -/
import Derived.Test.YtlcbipfmodcedaaGreatDoorFrm7
set_option linter.unusedVariables false
set_option linter.unusedSimpArgs false
namespace Go.Our
open Go.Sx Go.Lib
theorem BT{K J:Type}[DecidableEq K](a:K)(v:J):∀l:List (K×J),(wM a v l).map Prod.fst=if a∈l.map Prod.fst then l.map Prod.fst else l.map Prod.fst++ [a]
 | []=>by simp[wM]
 |(k,u)::r=>by
  unfold wM;by_cases e:a=k
  subst e;simp
  .rw[z7 e,zG,BT a v r,zG];by_cases h:a∈r.map Prod.fst
   rw[zf h,zf (zK _ h)];rw[z7 h,z7 (fun h2=>(zL.1 h2).elim e h)];rfl
theorem ZcD{K J:Type}[DecidableEq K]{a:K}{v:J}{l:List (K×J)}(h:(l.map Prod.fst).Nodup):((wM a v l).map Prod.fst).Nodup:=by
 rw[BT];split
 exact h
 .rename_i hm;rw[List.nodup_append];refine⟨h,by simp,fun x hx y hy e=>?_⟩;rw[zI]at hy;subst hy e;exact hm hx
end Go.Our
