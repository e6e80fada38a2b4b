/- Part 52: ReadS. Conditions: as each part says. -/
import Derived.Test.YtlcbipfmodcedaaGreatDoorCiso8
set_option linter.unusedVariables false
set_option linter.unusedSimpArgs false
namespace Go.Proofs.YtlcbipfmodcedaaGreatDoor
open Go.RowKit Go.Our Go.ChangeShapes Go.WideShapes Go.ChangeAt Go.Sx
open _root_.Go.Proofs.Tryz
section
variable {H:Type}{enc:TypeId×Value->H}{w:World}
theorem Zf8(K:Env)(q:Qd)(j:Nat)(sv:SV)(h:(Zd q)[j]?=some sv):∃u,(FY q)[j]?=some u/\u.oneCell'=true/\Den K sv u:=by
 have hlt:=(zg.1 h).1;have hl:(Zd q).length=16:=rfl;rw[hl]at hlt
 match j,hlt with
 |0,_|1,_|2,_|3,_|4,_|5,_|6,_|7,_|8,_|9,_|10,_|11,_|12,_|13,_|14,_|15,_=>injection h with h;subst h;exact⟨_,rfl,rfl,by simp only[Den]⟩
set_option maxRecDepth 100000 in
theorem TS{v:Value}{d:DataW H}{p:List MemPlace}{r:Reach}{b0:Nat}(ho:Value.okWide prog w r b0 22 v)(h:DataW.Trod enc prog w 0 (fun _=>true) true 22 v d p):
 ∃(l:List Qd) (en:Option qJ),qX w v 16 (l.map Zd) en/\((l=[]/\d= .nil)\/∃z:List Qd,d= .slice (l.map nh) (z.map nh)):=
 ZfC FY nh Zd (by omega) (fun a=>⟨rfl,rfl⟩) Zf8 underlying22 M4 (fun fuel cs x hx=>let⟨q,h1,h2,_⟩:=Zic hx;⟨q,h1,h2⟩) ho h
theorem ZgX:prog.bytesOf 67=224:=by kernel_rfl
theorem TT{l:List Qd}{d:DataW H}(hd:(l=[]/\d= .nil)\/∃z:List Qd,d= .slice (l.map nh) (z.map nh))(h:(d.weights prog 22).all (fun n=>decide (n<=reachBytes))=true):l.length*224<=140737488351232/\∀q∈l,n5 q:=by
 rcases hd with⟨rfl,rfl⟩|⟨z,rfl⟩
 simp
 .simp only[DataW.weights,underlying22,ZgX,zj,List.all_cons,vl,zk,yN]at h;obtain⟨h1,h2,_⟩:=h;refine⟨by unfold reachBytes at h1;rw[xB]at h1;omega,?_⟩
  have hall:∀(l:List Qd),(DataW.weightsAll prog 67 (l.map (nh (H:=H)))).all (fun n=>decide (n<=reachBytes))=true->∀q∈l,n5 q:=by
   intro l
   induction l with
   |nil=>intro _ q hq;cases hq
   |cons a l ih=>
    intro h q hq;simp only[zL,DataW.weightsAll,vl,zk]at h;rcases zI.1 hq with rfl|hq
    exact Zl2 (H:=H) h.1;exact ih h.2 q hq
  exact hall l h2
end
end Go.Proofs.YtlcbipfmodcedaaGreatDoor
