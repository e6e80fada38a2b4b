/- Part 32: MergeM. Conditions: as each part says. -/
import Derived.Test.YtlcbipfmodcedaaGreatDoorFrm7
set_option linter.unusedVariables false
set_option linter.unusedSimpArgs false
namespace Go.Our
open Go.Sx Go.Lib
section
variable {K:Type}{c:K->K->Int}
def kC(c:K->K->Int):List K->List K->List K
 | [],b=>b
 |x::a,[]=>x::a
 |x::a,y::b=>if c x y<=0 then x::kC c a (y::b)else y::kC c (x::a) b
termination_by a b=>a.length+b.length
theorem Gf(b:List K):kC c [] b=b:=by unfold kC;rfl
theorem HC(a:List K):kC c a []=a:=by cases a<;>(unfold kC;rfl)
theorem Bs{x y:K}{a b:List K}(h:c x y<=0):kC c (x::a) (y::b)=x::kC c a (y::b):=by
 conv=>lhs;unfold kC
 rw[zf h]
theorem Bt{x y:K}{a b:List K}(h:¬c x y<=0):kC c (x::a) (y::b)=y::kC c (x::a) b:=by
 conv=>lhs;unfold kC
 rw[z7 h]
theorem Q6:∀(n:Nat) (a b:List K),a.length+b.length<=n->(kC c a b).Perm (a++b)
 |_,[],b,_=>by rw[Gf];exact vq _
 |_,x::a,[],_=>by rw[HC,zP]
 |0,x::a,y::b,h=>by simp at h
 |n+1,x::a,y::b,h=>by
  simp only[List.length_cons]at h;by_cases e:c x y<=0
  .rw[Bs e];exact(Q6 n a (y::b) (by simp only[List.length_cons];omega)).cons x
  .rw[Bt e];refine((Q6 n (x::a) b (by simp only[List.length_cons];omega)).cons y).trans ?_;exact List.perm_middle.symm
theorem U6(h:Pre c):∀(n:Nat) (a b:List K),a.length+b.length<=n->a.Pairwise (fun x y=>c x y<=0)->b.Pairwise (fun x y=>c x y<=0)->(kC c a b).Pairwise (fun x y=>c x y<=0)
 |_,[],b,_,_,hb=>by rw[Gf];exact hb
 |_,x::a,[],_,ha,_=>by rw[HC];exact ha
 |0,x::a,y::b,hn,_,_=>by simp at hn
 |n+1,x::a,y::b,hn,ha,hb=>by
  simp only[List.length_cons]at hn;have eN:=yd.1 ha;have hb':=yd.1 hb;by_cases e:c x y<=0
  .rw[Bs e];refine yd.2 ⟨fun z hz=>?_,U6 h n a (y::b) (by simp only[List.length_cons];omega) eN.2 hb⟩;have:=(Q6 (c:=c) n a (y::b) (by simp only[List.length_cons];omega)).mem_iff.1 hz;rcases zQ.1 this with h1|h1
   exact eN.1 z h1
   .rcases zL.1 h1 with rfl|h1
    exact e;exact h.trans _ _ _ e (hb'.1 z h1)
  .rw[Bt e];have e2:c y x<=0:=by have:=(h.anti y x).2 (by omega);omega
   refine yd.2 ⟨fun z hz=>?_,U6 h n (x::a) b (by simp only[List.length_cons];omega) ha hb'.2⟩;have:=(Q6 (c:=c) n (x::a) b (by simp only[List.length_cons];omega)).mem_iff.1 hz;rcases zQ.1 this with h1|h1
   .rcases zL.1 h1 with rfl|h1
    exact e2;exact h.trans _ _ _ e2 (eN.1 z h1)
   exact hb'.1 z h1
theorem Xw{SA SB out tot:List K}{p q:Nat}(hp:p<SA.length)(hq:SB.length<=q\/∃h:q<SB.length,c SA[p] SB[q]<=0)(hr:out++kC c (SA.drop p) (SB.drop q)=tot):(out++ [SA[p]])++kC c (SA.drop (p+1)) (SB.drop q)=tot:=by
 rw[<-hr,zR,List.singleton_append,zm hp];rcases hq with hq|⟨hq,hc⟩
 rw[zN hq,HC,HC];rw[zm hq,Bs hc]
theorem Xx{SA SB out tot:List K}{p q:Nat}(hq:q<SB.length)(hp:SA.length<=p\/∃h:p<SA.length, ¬c SA[p] SB[q]<=0)(hr:out++kC c (SA.drop p) (SB.drop q)=tot):(out++ [SB[q]])++kC c (SA.drop p) (SB.drop (q+1))=tot:=by
 rw[<-hr,zR,List.singleton_append,zm hq];rcases hp with hp|⟨hp,hc⟩
 rw[zN hp,Gf,Gf];rw[zm hp,Bt hc]
theorem Q7{SA SB out tot:List K}{p q:Nat}(hp:SA.length<=p)(hq:SB.length<=q)(hr:out++kC c (SA.drop p) (SB.drop q)=tot):out=tot:=by
 rw[<-hr,zN hp,zN hq,Gf,zP]
theorem qJ.pre(h:qJ c):Pre c where
 anti a b:=by have:=h.anti a b;omega
 trans:=h.trans
theorem Za0[DecidableEq K](h:qJ c){l m:List K}(hp:m.Perm l)(hs:m.Pairwise fun x y=>c x y<=0):m=l.mergeSort (q9 c):=by
 refine List.Perm.eq_of_pairwise (le:=fun x y=>c x y<=0) (fun a b _ _ h1 h2=>?_) hs (Xa h l) (hp.trans (x6 l _).symm);have:=h.anti a b;exact(h.zero a b).1 (by omega)
theorem ZiE[DecidableEq K](h:qJ c)(l:List K)(k:Nat):kC c ((l.take k).mergeSort (q9 c)) ((l.drop k).mergeSort (q9 c))=l.mergeSort (q9 c):=by
 refine Za0 h ?_ (U6 h.pre _ _ _ (zo _) (Xa h _) (Xa h _));refine(Q6 _ _ _ (zo _)).trans ?_;have:=(x6 (l.take k) (q9 c)).append (x6 (l.drop k) (q9 c));rwa [yW]at this
end
end Go.Our
