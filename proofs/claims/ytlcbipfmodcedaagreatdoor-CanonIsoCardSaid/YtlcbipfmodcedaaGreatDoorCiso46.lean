/- Part 46: UnmetM. Conditions: as each part says. -/
import Derived.Test.YtlcbipfmodcedaaGreatDoorCiso7
set_option linter.unusedVariables false
set_option linter.unusedSimpArgs false
namespace Go.Our
open Go.Sx
theorem Zf0{m m' a b c d b' c' d':Int}(h:(gG m a b c d).2≠0)(hm:m<=m')(hb:2<=m->b'=b)(hc:3<=m->c'=c)(hd:4<=m->d'=d):gG m' a b' c' d'=gG m a b c d:=by
 unfold gG at h⊢;by_cases a1:a<128
 rw[z8 a1,z8 a1];rw[z6 a1]at h⊢;rw[z6 a1];by_cases a2:a<192
 rw[z8 a2]at h;exact(h rfl).elim;rw[z6 a2]at h⊢;rw[z6 a2];by_cases a3:a<224
 .rw[z8 a3]at h⊢;rw[z8 a3];split at h
  .rename_i k;rw[hb k.1,z8 ⟨by omega,k.2⟩,z8 k]
  exact(h rfl).elim
 rw[z6 a3]at h⊢;rw[z6 a3];by_cases a4:a<240
 .rw[z8 a4]at h⊢;rw[z8 a4];split at h
  .rename_i k;rw[hb (by omega),hc k.1,z8 ⟨by omega,k.2⟩,z8 k]
  exact(h rfl).elim
 rw[z6 a4]at h⊢;rw[z6 a4];by_cases a5:a<248
 .rw[z8 a5]at h⊢;rw[z8 a5];split at h
  .rename_i k;rw[hb (by omega),hc (by omega),hd k.1,z8 ⟨by omega,k.2⟩,z8 k]
  exact(h rfl).elim
 rw[z6 a5]at h;exact(h rfl).elim
theorem W9{s R:List UInt8}{k:Int}(h0:0<=k)(h:k<s.length):Zm (s++R) k=Zm s k:=by
 unfold Zm;rw[zi,zi,zu (by omega)]
theorem Z9i{s R:List UInt8}{i:Nat}(h:(Zf s i).2≠0):Zf (s++R) i=Zf s i:=by
 have hi:i<s.length:=Nat.lt_of_not_le fun h1=>h (UX h1);unfold Zf at h⊢;rw[z6 (by omega)]at h;rw[z6 (by rw[ze];omega),z6 (by omega),W9 (by omega) (by omega)];exact Zf0 h (by rw[ze];omega) (fun h=>W9 (by omega) (by omega)) (fun h=>W9 (by omega) (by omega)) (fun h=>W9 (by omega) (by omega))
end Go.Our
