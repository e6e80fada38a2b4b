/- Part 31: ReadN. Conditions: as each part says. -/
import Derived.Test.YtbfbokdccdagkaaGreatDoorRnm17
import Derived.Test.YtbfbokdccdagkaaGreatDoorRnm30
set_option linter.unusedVariables false
set_option linter.unusedSimpArgs false
namespace Go.Proofs.YtbfbokdccdagkaaGreatDoor
open Go.RowKit Go.Our Go.ChangeShapes Go.WideShapes Go.ChangeAt Go.Sx
open _root_.Go.Proofs.Tryz
section
variable {H:Type}{enc:TypeId×Value->H}{w:World}{base:Nat}{sp:Nat->Bool}{held:Bool}
def intD(x:Int):DataW H:= .lit (.int .i64 x)
theorem ZdY:prog.cellsOf 3=1:=by kernel_rfl
theorem ZdZ:prog.bytesOf 3=8:=by kernel_rfl
theorem Zcn(η:Env)(q:Int)(j:Nat)(sv:SV)(h:(Zg q)[j]?=some sv):∃u,([Value.int .i64 q]:List Value)[j]?=some u/\u.oneCell'=true/\Den η sv u:=by
 have hlt:=(List.getElem?_eq_some_iff.1 h).1;have hl:(Zg q).length=1:=rfl;rw[hl]at hlt
 match j,hlt with
 |0,_=>injection h with h;subst h;exact⟨_,rfl,rfl,by simp only[Den]⟩
set_option maxRecDepth 100000 in
theorem Zco{v:Value}{d:DataW H}{p:List MemPlace}{r:Reach}{b0:Nat}(ho:Value.okWide prog w r b0 51 v)(h:DataW.Trod enc prog w 0 (fun _=>true) true 51 v d p):
 ∃(l:List Int) (en:Option Ent),SliceIn w v 1 (l.map Zg) en/\((l=[]/\d= .nil)\/∃z:List Int,d= .slice (l.map intD) (z.map intD)):=
 slice_in (fun n=>[Value.int .i64 n]) intD Zg (by omega) (fun a=>⟨rfl,rfl⟩) Zcn underlying51 ZdY (fun fuel cs x hx=>by
  cases fuel with
  |zero=>simp[DataW.trod]at hx
  |succ fuel=>
   obtain⟨k,hk,hx,wk⟩:=DataW.trod_int underlying3 hx
   exact⟨k,hk,hx⟩) ho h
theorem Z9P{l:List Int}{d:DataW H}(hd:(l=[]/\d= .nil)\/∃z:List Int,d= .slice (l.map intD) (z.map intD))(h:(d.weights prog 51).all (fun n=>decide (n<=reachBytes))=true):l.length<=1152921504606846976:=by
 rcases hd with⟨rfl,rfl⟩|⟨z,rfl⟩
 ·simp
 ·simp only[DataW.weights,underlying51,ZdZ,List.length_map,List.all_cons,List.all_append,Bool.and_eq_true,decide_eq_true_eq]at h;obtain⟨h1,_⟩:=h;unfold reachBytes at h1;omega
end
end Go.Proofs.YtbfbokdccdagkaaGreatDoor
