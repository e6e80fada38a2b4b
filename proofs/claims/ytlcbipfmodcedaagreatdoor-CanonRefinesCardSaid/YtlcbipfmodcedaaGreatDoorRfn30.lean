/- Part 30: FoundM. Conditions: as each part says. -/
import Derived.Test.YtlcbipfmodcedaaGreatDoorRfn8
set_option linter.unusedVariables false
set_option linter.unusedSimpArgs false
namespace Go.Our
open Go Go.Sx
def zqd:Qd:=⟨ZE,ZE,ZE,ZE⟩
def atK(A:List LB)(l:List Qd)(k x:Nat):List Nat:=(List.range k).filter fun j=>decide (A.getD x []∈Zv (l.getD j zqd))
theorem Z9c(A:List LB)(l:List Qd)(x:Nat):atK A l l.length x=atV A l x:=rfl
theorem Zi8{A:List LB}{l:List Qd}{k x j:Nat}(h:j∈atK A l k x):j<k:=List.mem_range.1 (List.mem_filter.1 h).1
theorem Z6b(A:List LB)(l:List Qd)(k x:Nat):(atK A l k x).length<=k:=by
 have:=List.length_filter_le (fun j=>decide (A.getD x []∈Zv (l.getD j zqd))) (List.range k);rw[List.length_range]at this;exact this
def YJ(A:List LB)(l:List Qd)(k:Nat)(T:List LB):List (List Nat):=(List.range A.length).map fun n=>atK A l k n++if A.getD n []∈T then [k]else []
theorem XB(A:List LB)(l:List Qd)(k:Nat)(T:List LB):(YJ A l k T).length=A.length:=by simp[YJ]
theorem Z6c{A:List LB}{l:List Qd}{k n:Nat}{T:List LB}(h:n<A.length):(YJ A l k T)[n]'(by rw[XB];exact h)=atK A l k n++if A[n]∈T then [k]else []:=by
 simp[YJ,h]
theorem Z0M{A:List LB}{l:List Qd}{k:Nat}{T:List LB}:∀x∈YJ A l k T,x.length<=k+1:=by
 intro x hx;unfold YJ at hx;obtain⟨n,_,rfl⟩:=List.mem_map.1 hx;have:=Z6b A l k n;rw[List.length_append];split<;>simp<;>omega
theorem Z7W(A:List LB)(l:List Qd)(k:Nat):YJ A l k []=(List.range A.length).map (atK A l k):=by simp[YJ]
theorem Z5b(A:List LB)(l:List Qd):(List.range A.length).map (atK A l 0)=List.replicate A.length []:=by
 rw[List.eq_replicate_iff];refine⟨by simp,fun x hx=>?_⟩;obtain⟨n,_,rfl⟩:=List.mem_map.1 hx
 rfl
theorem Z0N{A:List LB}{l:List Qd}{k:Nat}{T:List LB}{s:LB}(h:s∈T):YJ A l k (T++ [s])=YJ A l k T:=by
 unfold YJ;refine List.map_congr_left fun n _=>?_;congr 1
 have:A.getD n []∈T++ [s]<->A.getD n []∈T:=by
  rw[List.mem_append,List.mem_singleton];exact⟨fun h1=>h1.elim id (fun e=>e▸h), .inl⟩
 by_cases h2:A.getD n []∈T
 ·rw[if_pos h2,if_pos (this.2 h2)]
 ·rw[if_neg h2,if_neg (fun h3=>h2 (this.1 h3))]
theorem J7{A:List LB}(hA:A.Nodup){l:List Qd}{k n:Nat}{T:List LB}(hn:n<A.length)(h:A[n]∉T):YJ A l k (T++ [A[n]])=(YJ A l k T).modify n (· ++ [k]):=by
 apply List.ext_getElem (by rw[List.length_modify,XB,XB]);intro i h1 h2;rw[XB]at h1;rw[List.getElem_modify,Z6c h1,Z6c h1];by_cases e:n=i
 ·subst e;rw[if_pos rfl,if_neg h,if_pos (by simp),List.append_nil]
 ·rw[if_neg e];congr 1;have hne:A[i]≠A[n]:=fun h3=>e ((List.getElem_inj hA).1 h3.symm)
  have:A[i]∈T++ [A[n]]<->A[i]∈T:=by
   rw[List.mem_append,List.mem_singleton];exact⟨fun h1=>h1.elim id (fun e=>(hne e).elim), .inl⟩
  by_cases h2:A[i]∈T
  ·rw[if_pos h2,if_pos (this.2 h2)]
  ·rw[if_neg h2,if_neg (fun h3=>h2 (this.1 h3))]
theorem Z7X{A:List LB}{l:List Qd}{k:Nat}{T:List LB}(hk:k<l.length)(h:∀s∈A,s∈T<->s∈Zv l[k]):YJ A l k T=(List.range A.length).map (atK A l (k+1)):=by
 unfold YJ;refine List.map_congr_left fun n hn=>?_;have hn:n<A.length:=List.mem_range.1 hn;have hg:A.getD n []=A[n]:=by rw[List.getD_eq_getElem?_getD,List.getElem?_eq_getElem hn];rfl
 have hl:l.getD k zqd=l[k]:=by rw[List.getD_eq_getElem?_getD,List.getElem?_eq_getElem hk];rfl
 unfold atK;rw[List.range_succ,List.filter_append,List.filter_cons,List.filter_nil,hl,hg];congr 1;have:=h A[n] (List.getElem_mem hn);by_cases h2:A[n]∈T
 ·rw[if_pos h2,if_pos (by simpa using this.1 h2)]
 ·rw[if_neg h2,if_neg (by simpa using fun h3=>h2 (this.2 h3))]
theorem Wu{A:List LB}{l:List Qd}{k n:Nat}{T:List LB}(hn:n<A.length):(∃c,(YJ A l k T)[n]'(by rw[XB];exact hn)=c++ [k])<->A[n]∈T:=by
 rw[Z6c hn];constructor
 ·rintro⟨c,hc⟩;refine Decidable.byContradiction fun h=>?_;rw[if_neg h,List.append_nil]at hc;have:k∈atK A l k n:=by rw[hc];simp
  have:=Zi8 this;omega
 ·intro h;rw[if_pos h];exact⟨_,rfl⟩
end Go.Our
