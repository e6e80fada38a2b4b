/- Part 38: RankM. Conditions: as each part says. -/
import Derived.Test.YtlcbipfmodcedaaGreatDoorRfn8
set_option linter.unusedVariables false
set_option linter.unusedSimpArgs false
namespace Go.Our
section
variable {c:Nat->Nat->Int}{o:List Nat}{n:Nat}
def outW(c:Nat->Nat->Int)(o:List Nat)(n i:Nat):List Int:=(List.range n).map fun x=>if x∈o.take i then(rankL c o x:Int)else 0
theorem Jt(i:Nat):(outW c o n i).length=n:=by simp[outW]
theorem Z42:outW c o n 0=List.replicate n 0:=by
 unfold outW;rw[List.eq_replicate_iff];simp
theorem Z6l(h:o.Perm (List.range n)):outW c o n o.length=(List.range n).map fun x=>(rankL c (List.range n) x:Int):=by
 unfold outW;refine List.map_congr_left fun x hx=>?_;rw[List.take_length,if_pos (h.mem_iff.2 hx),ZcS h]
theorem Ww(hn:o.Nodup){i:Nat}(hi:i<o.length)(hx:o[i]<n){v:Int}(hv:v=(rankL c o o[i]:Int)):(outW c o n i).set o[i] v=outW c o n (i+1):=by
 subst hv;apply List.ext_getElem (by rw[List.length_set,Jt,Jt]);intro j h1 h2;rw[Jt]at h2;rw[List.getElem_set];have e1:∀y (h:j< (outW c o n y).length),(outW c o n y)[j]=if j∈o.take y then(rankL c o j:Int)else 0:=fun y h=>by simp[outW]
 rw[e1,e1,List.take_succ_eq_append_getElem hi];by_cases e:o[i]=j
 ·rw[if_pos e,if_pos (by rw[<-e];exact List.mem_append_right _ (List.mem_singleton_self _)),e]
 ·rw[if_neg e]
  have:j∈o.take i++ [o[i]]<->j∈o.take i:=by
   rw[List.mem_append,List.mem_singleton];exact⟨fun h=>h.elim id (fun h=>(e h.symm).elim), .inl⟩
  by_cases h3:j∈o.take i
  ·rw[if_pos h3,if_pos (this.2 h3)]
  ·rw[if_neg h3,if_neg (fun h4=>h3 (this.1 h4))]
theorem Z6m{i j:Nat}(hj:j<i)(hl:j<o.length)(hx:o[j]<n):(outW c o n i)[o[j]]?=some (rankL c o o[j]:Int):=by
 have hm:o[j]∈o.take i:=by
  rw[List.mem_iff_getElem];exact⟨j,by rw[List.length_take];omega,by rw[List.getElem_take]⟩
 unfold outW;rw[List.getElem?_map,List.getElem?_range hx,Option.map_some,if_pos hm]
theorem Z1r(h:Pre c)(hs:o.Pairwise fun a b=>c a b<=0)(hi:0<o.length):rankL c o o[0]=0:=by
 rw[Z18 h hs hi];rfl
theorem Z43(h:Pre c)(hs:o.Pairwise fun a b=>c a b<=0){j:Nat}(hi:j+1<o.length):rankL c o o[j+1]=if c o[j] o[j+1]=0 then rankL c o o[j]else j+1:=by
 rw[Z18 h hs hi,Z18 h hs (show j<o.length by omega)];have h1:o.getD j default=o[j]:=by rw[List.getD_eq_getElem?_getD,List.getElem?_eq_getElem (by omega)];rfl
 have h2:o.getD (j+1) default=o[j+1]:=by rw[List.getD_eq_getElem?_getD,List.getElem?_eq_getElem hi];rfl
 show(if c (o.getD j default) (o.getD (j+1) default)=0 then _ else _)=_
 rw[h1,h2]
end
end Go.Our
