/- Part 24: ListsR. Conditions: as each part says. -/
import Derived.Test.YtlcbipfmodcedaaGreatDoorFrm7
set_option linter.unusedVariables false
set_option linter.unusedSimpArgs false
namespace Go.Our
open Go.Sx Go.Lib
def JE:List Qd->List Qd->Int
 | [],b=> -(b.length:Int)
 |a,[]=>(a.length:Int)
 |x::a,y::b=>if ZP x y=0 then JE a b else ZP x y
theorem Zcr(a:List Qd):JE a []=(a.length:Int):=by cases a<;>simp[JE]
theorem B8:∀a b:List Qd,(JE a b<0<->Y6 a b<0)/\(JE a b=0<->Y6 a b=0)
 | [],[]=>by simp[JE,Y6]
 | [],y::b=>by simp only[JE,Y6,List.length_cons];omega
 |x::a,[]=>by simp only[JE,Y6,List.length_cons];omega
 |x::a,y::b=>by
  simp only[JE,Y6];split
  exact B8 a b;exact⟨xF,xF⟩
theorem Z9R{a b:List Qd}{i:Nat}(h1:i<a.length)(h2:i<b.length):JE (a.drop i) (b.drop i)=if ZP a[i] b[i]=0 then JE (a.drop (i+1)) (b.drop (i+1))else ZP a[i] b[i]:=by
 rw[zm h1,zm h2];rfl
theorem LW{a b:List Qd}{i:Nat}(h:i=a.length\/i=b.length)(h1:i<=a.length)(h2:i<=b.length):JE (a.drop i) (b.drop i)=(a.length:Int)-(b.length:Int):=by
 rcases h with rfl|rfl
 .rw[vw];simp only[JE,zD];omega
 rw[vw,Zcr,zD];omega
def VH(ca cb:Int)(a b:List Qd):Int:=if ca=cb then JE a b else ca-cb
theorem Z9S(ca cb:Int)(a b:List Qd):(VH ca cb a b<0<->(if uY ca cb=0 then Y6 a b else uY ca cb)<0)/\(VH ca cb a b=0<->(if uY ca cb=0 then Y6 a b else uY ca cb)=0):=by
 have hz:=fW.zero ca cb;unfold VH;by_cases h:ca=cb
 .rw[zf h,zf (hz.2 h)];exact B8 a b
 .rw[z7 h,z7 (fun e=>h (hz.1 e))];unfold uY;constructor<;>(repeat' split)<;>omega
end Go.Our
