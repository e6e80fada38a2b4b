import Derived.Lib.MakeNoZero
import Derived.Laws.IdiomCopy
import Derived.Test.YtlcbipfmodcedaaGreatDoorTxt13
set_option linter.unusedVariables false
set_option linter.unusedSimpArgs false
set_option maxRecDepth 20000
set_option maxHeartbeats 8000000
namespace Go.Proofs.YtlcbipfmodcedaaGreatDoor
open Go.Sx Go.Our Go.Lib
theorem Uk{l:List Int}{k x:Nat}{v:Int}(hk:k=x):(l.map Zg).set k [.int .i64 v]=(l.set x v).map Zg:=by
 subst hk;exact LH Zg l k v
end Go.Proofs.YtlcbipfmodcedaaGreatDoor



namespace Go.Proofs.YtlcbipfmodcedaaGreatDoor
open Go.Sx Go.Our
theorem AQ{l:List Qd}{q:Qd}{t:Tm}(hq:q∈l)(ht:t∈XW q)(hk:t.k=2):t.t∈ZA l:=by
 refine(X4 _ _).2 (xB.2 ⟨q,hq,?_⟩);have hb:t.t∈ZS t:=by unfold ZS;rw[zh hk];exact vm _
 unfold XW at ht;unfold Zx;simp only[zK,xA,uw]at ht;simp only[zW];rcases ht with rfl|rfl|rfl|rfl
 exact .inl (.inl (.inl hb));exact .inl (.inl (.inr hb));exact .inl (.inr hb);exact .inr hb
theorem Zg4{p:Pr}{ps:List Pr}{s:LB}:jX (p::ps) s=if p.1=s then some p.2 else jX ps s:=by
 unfold jX;rw[List.find?_cons];by_cases h:p.1=s
 simp[h];simp[h]
section
variable {a b:List Qd}{zs:List Nat}(hAB:(ZA b).length=(ZA a).length)(hz:zs.length<=(ZA a).length)
include hz in
end
theorem EW{x:Tm}(h:wH x=0):aU 1048576 x:=by
 have h1:=ZfV h;have h2:=WV h;unfold aU Fx;omega
theorem Zmw{q:Qd}(h:Xv q=0):aU 1048576 q.s/\aU 1048576 q.p/\aU 1048576 q.o/\aU 1048576 q.g:=by
 obtain⟨h1,h2,h3,h4,_⟩:=T5 h;refine⟨EW h1,EW h2,EW h3,?_⟩;rcases h4 with e|e
 rw[e];unfold aU Fx YN;decide;exact EW e
structure bZ(l:List Qd):Prop where
 QD:kC ZM l
 few:l.length<=1048576
 ck:∀q∈l,Xv q=0
theorem Zmx{l:List Qd}(h:(ZK l).2=0):bZ l:=⟨(Uj h).1,(Uj h).2,Wv h⟩
