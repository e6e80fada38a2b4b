/- Part 36: RankM. Conditions: as each part says. -/
import Derived.Test.YtlcbipfmodcedaaGreatDoorFrm7
set_option linter.unusedVariables false
set_option linter.unusedSimpArgs false
namespace Go.Our
section
variable {c:Nat->Nat->Int}{o:List Nat}{n:Nat}
def wP(c:Nat->Nat->Int)(o:List Nat)(n i:Nat):List Int:=(List.range n).map fun x=>if x∈o.take i then(uZ c o x:Int)else 0
theorem Jt(i:Nat):(wP c o n i).length=n:=by simp[wP]
theorem BF:wP c o n 0=List.replicate n 0:=by
 unfold wP;rw[vp];simp
theorem BG(h:o.Perm (List.range n)):wP c o n o.length=(List.range n).map fun x=>(uZ c (List.range n) x:Int):=by
 unfold wP;refine yy fun x hx=>?_;rw[y8,zf (h.mem_iff.2 hx),ZdW h]
theorem WA(hn:o.Nodup){i:Nat}(hi:i<o.length)(hx:o[i]<n){v:Int}(hv:v=(uZ c o o[i]:Int)):(wP c o n i).set o[i] v=wP c o n (i+1):=by
 subst hv;apply yV (by rw[xO,Jt,Jt]);intro j h1 h2;rw[Jt]at h2;rw[vA];have e1:∀y (h:j< (wP c o n y).length),(wP c o n y)[j]=if j∈o.take y then(uZ c o j:Int)else 0:=fun y h=>by simp[wP]
 rw[e1,e1,zH hi];by_cases e:o[i]=j
 rw[zf e,zf (by rw[<-e];exact xP _ (vO _)),e]
 .rw[z7 e]
  have:j∈o.take i++ [o[i]]<->j∈o.take i:=by
   rw[zQ,zI];exact⟨fun h=>h.elim id (fun h=>(e h.symm).elim), .inl⟩
  by_cases h3:j∈o.take i
  rw[zf h3,zf (this.2 h3)];rw[z7 h3,z7 (fun h4=>h3 (this.1 h4))]
theorem BH{i j:Nat}(hj:j<i)(hl:j<o.length)(hx:o[j]<n):(wP c o n i)[o[j]]?=some (uZ c o o[j]:Int):=by
 have hm:o[j]∈o.take i:=by
  rw[yM];exact⟨j,by rw[zq];omega,by rw[xR]⟩
 unfold wP;rw[z6,yG hx,Option.map_some,zf hm]
theorem BI(h:Pre c)(hs:o.Pairwise fun a b=>c a b<=0)(hi:0<o.length):uZ c o o[0]=0:=by
 rw[C3 h hs hi];rfl
theorem BJ(h:Pre c)(hs:o.Pairwise fun a b=>c a b<=0){j:Nat}(hi:j+1<o.length):uZ c o o[j+1]=if c o[j] o[j+1]=0 then uZ c o o[j]else j+1:=by
 rw[C3 h hs hi,C3 h hs (show j<o.length by omega)];have h1:o.getD j default=o[j]:=by rw[zl,z1 (by omega)];rfl
 have h2:o.getD (j+1) default=o[j+1]:=by rw[zl,z1 hi];rfl
 show(if c (o.getD j default) (o.getD (j+1) default)=0 then _ else _)=_
 rw[h1,h2]
end
end Go.Our
