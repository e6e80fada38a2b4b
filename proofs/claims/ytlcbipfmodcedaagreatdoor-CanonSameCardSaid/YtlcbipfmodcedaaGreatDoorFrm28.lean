/- Part 28: FoundM. Conditions: as each part says. -/
import Derived.Test.YtlcbipfmodcedaaGreatDoorFrm7
set_option linter.unusedVariables false
set_option linter.unusedSimpArgs false
namespace Go.Our
open Go Go.Sx
def Be:Qd:=⟨ZC,ZC,ZC,ZC⟩
def oK(A:List LB)(l:List Qd)(k x:Nat):List Nat:=(List.range k).filter fun j=>decide (A.getD x []∈Zw (l.getD j Be))
theorem Bf(A:List LB)(l:List Qd)(x:Nat):oK A l l.length x=cc A l x:=rfl
theorem Zkb{A:List LB}{l:List Qd}{k x j:Nat}(h:j∈oK A l k x):j<k:=yj.1 (List.mem_filter.1 h).1
theorem Hw(A:List LB)(l:List Qd)(k x:Nat):(oK A l k x).length<=k:=by
 have:=vo (fun j=>decide (A.getD x []∈Zw (l.getD j Be))) (List.range k);rw[yE]at this;exact this
def J3(A:List LB)(l:List Qd)(k:Nat)(T:List LB):List (List Nat):=(List.range A.length).map fun n=>oK A l k n++if A.getD n []∈T then [k]else []
theorem Vq(A:List LB)(l:List Qd)(k:Nat)(T:List LB):(J3 A l k T).length=A.length:=by simp[J3]
theorem Bg{A:List LB}{l:List Qd}{k n:Nat}{T:List LB}(h:n<A.length):(J3 A l k T)[n]'(by rw[Vq];exact h)=oK A l k n++if A[n]∈T then [k]else []:=by
 simp[J3,h]
theorem R2{A:List LB}{l:List Qd}{k:Nat}{T:List LB}:∀x∈J3 A l k T,x.length<=k+1:=by
 intro x hx;unfold J3 at hx;obtain⟨n,_,rfl⟩:=yc.1 hx;have:=Hw A l k n;rw[zh];split<;>simp<;>omega
theorem R3(A:List LB)(l:List Qd)(k:Nat):J3 A l k []=(List.range A.length).map (oK A l k):=by simp[J3]
theorem R4(A:List LB)(l:List Qd):(List.range A.length).map (oK A l 0)=List.replicate A.length []:=by
 rw[vp];refine⟨by simp,fun x hx=>?_⟩;obtain⟨n,_,rfl⟩:=yc.1 hx
 rfl
theorem ZeJ{A:List LB}{l:List Qd}{k:Nat}{T:List LB}{s:LB}(h:s∈T):J3 A l k (T++ [s])=J3 A l k T:=by
 unfold J3;refine yy fun n _=>?_;congr 1
 have:A.getD n []∈T++ [s]<->A.getD n []∈T:=by
  rw[zQ,zI];exact⟨fun h1=>h1.elim id (fun e=>e▸h), .inl⟩
 by_cases h2:A.getD n []∈T
 rw[zf h2,zf (this.2 h2)];rw[z7 h2,z7 (fun h3=>h2 (this.1 h3))]
theorem Bh{A:List LB}(hA:A.Nodup){l:List Qd}{k n:Nat}{T:List LB}(hn:n<A.length)(h:A[n]∉T):J3 A l k (T++ [A[n]])=(J3 A l k T).modify n (· ++ [k]):=by
 apply yV (by rw[List.length_modify,Vq,Vq]);intro i h1 h2;rw[Vq]at h1;rw[List.getElem_modify,Bg h1,Bg h1];by_cases e:n=i
 .subst e;rw[zf rfl,z7 h,zf (by simp),zP]
 .rw[z7 e];congr 1;have hne:A[i]≠A[n]:=fun h3=>e ((x9 hA).1 h3.symm)
  have:A[i]∈T++ [A[n]]<->A[i]∈T:=by
   rw[zQ,zI];exact⟨fun h1=>h1.elim id (fun e=>(hne e).elim), .inl⟩
  by_cases h2:A[i]∈T
  rw[zf h2,zf (this.2 h2)];rw[z7 h2,z7 (fun h3=>h2 (this.1 h3))]
theorem R5{A:List LB}{l:List Qd}{k:Nat}{T:List LB}(hk:k<l.length)(h:∀s∈A,s∈T<->s∈Zw l[k]):J3 A l k T=(List.range A.length).map (oK A l (k+1)):=by
 unfold J3;refine yy fun n hn=>?_;have hn:n<A.length:=yj.1 hn;have hg:A.getD n []=A[n]:=by rw[zl,z1 hn];rfl
 have hl:l.getD k Be=l[k]:=by rw[zl,z1 hk];rfl
 unfold oK;rw[List.range_succ,List.filter_append,vz,List.filter_nil,hl,hg];congr 1;have:=h A[n] (zk hn);by_cases h2:A[n]∈T
 rw[zf h2,zf (by simpa using this.1 h2)];rw[z7 h2,z7 (by simpa using fun h3=>h2 (this.2 h3))]
theorem Zct{A:List LB}{l:List Qd}{k n:Nat}{T:List LB}(hn:n<A.length):(∃c,(J3 A l k T)[n]'(by rw[Vq];exact hn)=c++ [k])<->A[n]∈T:=by
 rw[Bg hn];constructor
 .rintro⟨c,hc⟩;refine Decidable.byContradiction fun h=>?_;rw[z7 h,zP]at hc;have:k∈oK A l k n:=by rw[hc];simp
  have:=Zkb this;omega
 intro h;rw[zf h];exact⟨_,rfl⟩
end Go.Our
