/- Part 26: ListsR. Conditions: as each part says. -/
import Derived.Test.YtlcbipfmodcedaaGreatDoorRfn8
set_option linter.unusedVariables false
set_option linter.unusedSimpArgs false
namespace Go.Our
open Go.Sx Go.Lib
def JE:List Qd->List Qd->Int
 | [],b=> -(b.length:Int)
 |a,[]=>(a.length:Int)
 |x::a,y::b=>if Xd x y=0 then JE a b else Xd x y
theorem Zbv(a:List Qd):JE a []=(a.length:Int):=by cases a<;>simp[JE]
theorem Z7U:∀a b:List Qd,(JE a b<0<->Yg a b<0)/\(JE a b=0<->Yg a b=0)
 | [],[]=>by simp[JE,Yg]
 | [],y::b=>by simp only[JE,Yg,List.length_cons];omega
 |x::a,[]=>by simp only[JE,Yg,List.length_cons];omega
 |x::a,y::b=>by
  simp only[JE,Yg];split
  ·exact Z7U a b
  ·exact⟨Iff.rfl,Iff.rfl⟩
theorem Z9a{a b:List Qd}{i:Nat}(h1:i<a.length)(h2:i<b.length):JE (a.drop i) (b.drop i)=if Xd a[i] b[i]=0 then JE (a.drop (i+1)) (b.drop (i+1))else Xd a[i] b[i]:=by
 rw[List.drop_eq_getElem_cons h1,List.drop_eq_getElem_cons h2];rfl
theorem Z5a{a b:List Qd}{i:Nat}(h:i=a.length\/i=b.length)(h1:i<=a.length)(h2:i<=b.length):JE (a.drop i) (b.drop i)=(a.length:Int)-(b.length:Int):=by
 rcases h with rfl|rfl
 ·rw[List.drop_length];simp only[JE,List.length_drop];omega
 ·rw[List.drop_length,Zbv,List.length_drop];omega
def VA(ca cb:Int)(a b:List Qd):Int:=if ca=cb then JE a b else ca-cb
theorem Z9b(ca cb:Int)(a b:List Qd):(VA ca cb a b<0<->(if cmpI ca cb=0 then Yg a b else cmpI ca cb)<0)/\(VA ca cb a b=0<->(if cmpI ca cb=0 then Yg a b else cmpI ca cb)=0):=by
 have hz:=triI.zero ca cb;unfold VA;by_cases h:ca=cb
 ·rw[if_pos h,if_pos (hz.2 h)];exact Z7U a b
 ·rw[if_neg h,if_neg (fun e=>h (hz.1 e))];unfold cmpI;constructor<;>(repeat' split)<;>omega
end Go.Our
