/- Part 45: GroupM. Conditions: as each part says. -/
import Derived.Test.YtlcbipfmodcedaaGreatDoorRfn8
set_option linter.unusedVariables false
set_option linter.unusedSimpArgs false
namespace Go.Our
open Go.Sx Go.Lib
def addC(m:List (Int×List LB))(p:Int×LB):List (Int×List LB):=setA p.1 ((getA p.1 m).getD []++ [p.2]) m
def clM(ps:List (Int×LB)):List (Int×List LB):=ps.foldl addC []
def clsL(A:List LB)(F:List Int)(k:Int):List LB:=((F.zip A).filter fun p=>decide (p.1=k)).map Prod.snd
def Xc(A:List LB)(F:List Int)(n:Nat):List (List LB):=((List.range n).map fun k:Nat=>clsL A F (k:Int)).filter fun L=>!L.isEmpty
theorem Zf5(m:List (Int×List LB))(p:Int×LB)(c:Int):(getA c (addC m p)).getD []=(getA c m).getD []++if p.1=c then [p.2]else []:=by
 unfold addC;rw[Z2k];by_cases e:c=p.1
 ·subst e;simp
 ·rw[if_neg e,if_neg (Ne.symm e),List.append_nil]
theorem Zau(c:Int):∀(ps:List (Int×LB)) (m:List (Int×List LB)),(getA c (ps.foldl addC m)).getD []=(getA c m).getD []++(ps.filter fun p=>decide (p.1=c)).map Prod.snd
 | [],m=>by simp
 |p::ps,m=>by
  rw[List.foldl_cons,Zau c ps,Zf5,List.filter_cons];by_cases e:p.1=c
  ·simp[e]
  ·simp[e]
theorem ZdQ(ps:List (Int×LB))(c:Int):(getA c (clM ps)).getD []=(ps.filter fun p=>decide (p.1=c)).map Prod.snd:=by
 unfold clM;rw[Zau];rfl
theorem ZgY{A:List LB}{F:List Int}(c:Int):(getA c (clM (F.zip A))).getD []=clsL A F c:=ZdQ _ c
theorem Zig(A:List LB)(F:List Int)(c:Int):(clsL A F c).length<=A.length:=by
 unfold clsL;rw[List.length_map];exact Nat.le_trans (List.length_filter_le ..) (by rw[List.length_zip];omega)
theorem Zih(ps:List (Int×LB))(c:Int):((getA c (clM ps)).getD []).length<=ps.length:=by
 rw[ZdQ,List.length_map];exact List.length_filter_le ..
theorem Z47{α β:Type}[DecidableEq α](a:α)(v:β):∀l:List (α×β),(setA a v l).map Prod.fst=if a∈l.map Prod.fst then l.map Prod.fst else l.map Prod.fst++ [a]
 | []=>by simp[setA]
 |(k,u)::r=>by
  unfold setA;by_cases e:a=k
  ·subst e;simp
  ·rw[if_neg e,List.map_cons,Z47 a v r,List.map_cons];by_cases h:a∈r.map Prod.fst
   ·rw[if_pos h,if_pos (List.mem_cons_of_mem _ h)]
   ·rw[if_neg h,if_neg (fun h2=>(List.mem_cons.1 h2).elim e h)];rfl
theorem ZbH{α β:Type}[DecidableEq α]{a:α}{v:β}{l:List (α×β)}(h:(l.map Prod.fst).Nodup):((setA a v l).map Prod.fst).Nodup:=by
 rw[Z47];split
 ·exact h
 ·rename_i hm;rw[List.nodup_append];refine⟨h,by simp,fun x hx y hy e=>?_⟩;rw[List.mem_singleton]at hy;subst hy e;exact hm hx
theorem ZdR(ps:List (Int×LB)):((clM ps).map Prod.fst).Nodup:=by
 have go:∀(ps:List (Int×LB)) (m:List (Int×List LB)),(m.map Prod.fst).Nodup->((ps.foldl addC m).map Prod.fst).Nodup:=by
  intro ps
  induction ps with
  |nil=>exact fun m h=>h
  |cons p ps ih=>exact fun m h=>ih _ (ZbH h)
 exact go ps [] (by simp)
theorem Zf6{ps:List (Int×LB)}{i:Nat}(h:i<ps.length):clM (ps.take (i+1))=setA ps[i].1 ((getA ps[i].1 (clM (ps.take i))).getD []++ [ps[i].2]) (clM (ps.take i)):=by
 unfold clM;rw[List.take_succ_eq_append_getElem h,List.foldl_append];rfl
theorem ZgZ(ps:List (Int×LB)):(clM ps).length<=ps.length:=by
 have go:∀(ps:List (Int×LB)) (m:List (Int×List LB)),(ps.foldl addC m).length<=m.length+ps.length:=by
  intro ps
  induction ps with
  |nil=>exact fun m=>Nat.le_refl _
  |cons p ps ih=>
   intro m;refine Nat.le_trans (ih _) ?_
   have:(addC m p).length<=m.length+1:=by
    unfold addC;rw[<-List.length_map (f:=Prod.fst),Z47];split<;>simp
   rw[List.length_cons];omega
 have:=go ps [];rwa [List.length_nil,Nat.zero_add]at this
theorem Z5h(A:List LB)(F:List Int)(n:Nat):Xc A F (n+1)=Xc A F n++if clsL A F (n:Int)=[]then []else [clsL A F (n:Int)]:=by
 unfold Xc;rw[List.range_succ,List.map_append,List.filter_append];congr 1;by_cases e:clsL A F (n:Int)=[]
 ·simp[e]
 ·rw[if_neg e];simp[e]
theorem Z48(A:List LB)(F:List Int)(n:Nat):(Xc A F n).length<=n:=by
 unfold Xc;exact Nat.le_trans (List.length_filter_le ..) (by simp)
end Go.Our
