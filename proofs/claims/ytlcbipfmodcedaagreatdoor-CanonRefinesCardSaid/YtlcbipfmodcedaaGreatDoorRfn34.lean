/- Part 34: MergeM. Conditions: as each part says. -/
import Derived.Test.YtlcbipfmodcedaaGreatDoorRfn8
set_option linter.unusedVariables false
set_option linter.unusedSimpArgs false
namespace Go.Our
open Go.Sx Go.Lib
section
variable {α:Type}{c:α->α->Int}
def mgM(c:α->α->Int):List α->List α->List α
 | [],b=>b
 |x::a,[]=>x::a
 |x::a,y::b=>if c x y<=0 then x::mgM c a (y::b)else y::mgM c (x::a) b
termination_by a b=>a.length+b.length
theorem Z81(b:List α):mgM c [] b=b:=by unfold mgM;rfl
theorem Z6e(a:List α):mgM c a []=a:=by cases a<;>(unfold mgM;rfl)
theorem Z9e{x y:α}{a b:List α}(h:c x y<=0):mgM c (x::a) (y::b)=x::mgM c a (y::b):=by
 conv=>lhs;unfold mgM
 rw[if_pos h]
theorem Z6f{x y:α}{a b:List α}(h:¬c x y<=0):mgM c (x::a) (y::b)=y::mgM c (x::a) b:=by
 conv=>lhs;unfold mgM
 rw[if_neg h]
theorem Z1q:∀(n:Nat) (a b:List α),a.length+b.length<=n->(mgM c a b).Perm (a++b)
 |_,[],b,_=>by rw[Z81];exact List.Perm.refl _
 |_,x::a,[],_=>by rw[Z6e,List.append_nil]
 |0,x::a,y::b,h=>by simp at h
 |n+1,x::a,y::b,h=>by
  simp only[List.length_cons]at h;by_cases e:c x y<=0
  ·rw[Z9e e];exact(Z1q n a (y::b) (by simp only[List.length_cons];omega)).cons x
  ·rw[Z6f e];refine((Z1q n (x::a) b (by simp only[List.length_cons];omega)).cons y).trans ?_;exact List.perm_middle.symm
theorem U0(h:Pre c):∀(n:Nat) (a b:List α),a.length+b.length<=n->a.Pairwise (fun x y=>c x y<=0)->b.Pairwise (fun x y=>c x y<=0)->(mgM c a b).Pairwise (fun x y=>c x y<=0)
 |_,[],b,_,_,hb=>by rw[Z81];exact hb
 |_,x::a,[],_,ha,_=>by rw[Z6e];exact ha
 |0,x::a,y::b,hn,_,_=>by simp at hn
 |n+1,x::a,y::b,hn,ha,hb=>by
  simp only[List.length_cons]at hn;have ha':=List.pairwise_cons.1 ha;have hb':=List.pairwise_cons.1 hb;by_cases e:c x y<=0
  ·rw[Z9e e];refine List.pairwise_cons.2 ⟨fun z hz=>?_,U0 h n a (y::b) (by simp only[List.length_cons];omega) ha'.2 hb⟩;have:=(Z1q (c:=c) n a (y::b) (by simp only[List.length_cons];omega)).mem_iff.1 hz;rcases List.mem_append.1 this with h1|h1
   ·exact ha'.1 z h1
   ·rcases List.mem_cons.1 h1 with rfl|h1
    ·exact e
    ·exact h.trans _ _ _ e (hb'.1 z h1)
  ·rw[Z6f e];have e2:c y x<=0:=by have:=(h.anti y x).2 (by omega);omega
   refine List.pairwise_cons.2 ⟨fun z hz=>?_,U0 h n (x::a) b (by simp only[List.length_cons];omega) ha hb'.2⟩;have:=(Z1q (c:=c) n (x::a) b (by simp only[List.length_cons];omega)).mem_iff.1 hz;rcases List.mem_append.1 this with h1|h1
   ·rcases List.mem_cons.1 h1 with rfl|h1
    ·exact e2
    ·exact h.trans _ _ _ e2 (ha'.1 z h1)
   ·exact hb'.1 z h1
theorem XF{SA SB out tot:List α}{p q:Nat}(hp:p<SA.length)(hq:SB.length<=q\/∃h:q<SB.length,c SA[p] SB[q]<=0)(hr:out++mgM c (SA.drop p) (SB.drop q)=tot):(out++ [SA[p]])++mgM c (SA.drop (p+1)) (SB.drop q)=tot:=by
 rw[<-hr,List.append_assoc,List.singleton_append,List.drop_eq_getElem_cons hp];rcases hq with hq|⟨hq,hc⟩
 ·rw[List.drop_eq_nil_of_le hq,Z6e,Z6e]
 ·rw[List.drop_eq_getElem_cons hq,Z9e hc]
theorem XG{SA SB out tot:List α}{p q:Nat}(hq:q<SB.length)(hp:SA.length<=p\/∃h:p<SA.length, ¬c SA[p] SB[q]<=0)(hr:out++mgM c (SA.drop p) (SB.drop q)=tot):(out++ [SB[q]])++mgM c (SA.drop p) (SB.drop (q+1))=tot:=by
 rw[<-hr,List.append_assoc,List.singleton_append,List.drop_eq_getElem_cons hq];rcases hp with hp|⟨hp,hc⟩
 ·rw[List.drop_eq_nil_of_le hp,Z81,Z81]
 ·rw[List.drop_eq_getElem_cons hp,Z6f hc]
theorem Z5e{SA SB out tot:List α}{p q:Nat}(hp:SA.length<=p)(hq:SB.length<=q)(hr:out++mgM c (SA.drop p) (SB.drop q)=tot):out=tot:=by
 rw[<-hr,List.drop_eq_nil_of_le hp,List.drop_eq_nil_of_le hq,Z81,List.append_nil]
theorem Tri.pre(h:Tri c):Pre c where
 anti a b:=by have:=h.anti a b;omega
 trans:=h.trans
theorem Z9f[DecidableEq α](h:Tri c){l m:List α}(hp:m.Perm l)(hs:m.Pairwise fun x y=>c x y<=0):m=l.mergeSort (leC c):=by
 refine List.Perm.eq_of_pairwise (le:=fun x y=>c x y<=0) (fun a b _ _ h1 h2=>?_) hs (XP h l) (hp.trans (List.mergeSort_perm l _).symm);have:=h.anti a b;exact(h.zero a b).1 (by omega)
theorem ZgQ[DecidableEq α](h:Tri c)(l:List α)(k:Nat):mgM c ((l.take k).mergeSort (leC c)) ((l.drop k).mergeSort (leC c))=l.mergeSort (leC c):=by
 refine Z9f h ?_ (U0 h.pre _ _ _ (Nat.le_refl _) (XP h _) (XP h _));refine(Z1q _ _ _ (Nat.le_refl _)).trans ?_;have:=(List.mergeSort_perm (l.take k) (leC c)).append (List.mergeSort_perm (l.drop k) (leC c));rwa [List.take_append_drop]at this
end
end Go.Our
