/- Part 51: ReadS. Conditions: as each part says. -/
import Derived.Test.YtlcbipfmodcedaaGreatDoorFrm8
set_option linter.unusedVariables false
set_option linter.unusedSimpArgs false
namespace Go.Proofs.YtlcbipfmodcedaaGreatDoor
open Go.RowKit Go.Our Go.ChangeShapes Go.WideShapes Go.ChangeAt Go.Sx
open _root_.Go.Proofs.Tryz
section
variable {H:Type}{enc:TypeId×Value->H}{w:World}
theorem Zfl(K:Env)(q:Qd)(j:Nat)(sv:SV)(h:(Z3 q)[j]?=some sv):∃u,(Ft q)[j]?=some u/\u.oneCell'=true/\Den K sv u:=by
 have hlt:=(ze.1 h).1;have hl:(Z3 q).length=16:=rfl;rw[hl]at hlt
 match j,hlt with
 |0,_|1,_|2,_|3,_|4,_|5,_|6,_|7,_|8,_|9,_|10,_|11,_|12,_|13,_|14,_|15,_=>injection h with h;subst h;exact⟨_,rfl,rfl,by simp only[Den]⟩
set_option maxRecDepth 100000 in
theorem ZgU{v:Value}{d:DataW H}{p:List MemPlace}{r:Reach}{b0:Nat}(ho:Value.okWide prog w r b0 22 v)(h:DataW.Trod enc prog w 0 (fun _=>true) true 22 v d p):
 ∃(l:List Qd) (en:Option wZ),qN w v 16 (l.map Z3) en/\((l=[]/\d= .nil)\/∃z:List Qd,d= .slice (l.map pU) (z.map pU)):=
 ZfQ Ft pU Z3 (by omega) (fun a=>⟨rfl,rfl⟩) Zfl underlying22 Nt (fun fuel cs x hx=>let⟨q,h1,h2,_⟩:=Zi4 hx;⟨q,h1,h2⟩) ho h
theorem ZgV:prog.bytesOf 67=224:=by kernel_rfl
theorem Zfm{l:List Qd}{d:DataW H}(hd:(l=[]/\d= .nil)\/∃z:List Qd,d= .slice (l.map pU) (z.map pU))(h:(d.weights prog 22).all (fun n=>decide (n<=reachBytes))=true):l.length*224<=140737488351232/\∀q∈l,o7 q:=by
 rcases hd with⟨rfl,rfl⟩|⟨z,rfl⟩
 simp
 .simp only[DataW.weights,underlying22,ZgV,zy,List.all_cons,vF,zj,yw]at h;obtain⟨h1,h2,_⟩:=h;refine⟨by unfold reachBytes at h1;rw[xK]at h1;omega,?_⟩
  have hall:∀(l:List Qd),(DataW.weightsAll prog 67 (l.map (pU (H:=H)))).all (fun n=>decide (n<=reachBytes))=true->∀q∈l,o7 q:=by
   intro l
   induction l with
   |nil=>intro _ q hq;cases hq
   |cons a l ih=>
    intro h q hq;simp only[zG,DataW.weightsAll,vF,zj]at h;rcases zL.1 hq with rfl|hq
    exact ZkC (H:=H) h.1;exact ih h.2 q hq
  exact hall l h2
end
end Go.Proofs.YtlcbipfmodcedaaGreatDoor
