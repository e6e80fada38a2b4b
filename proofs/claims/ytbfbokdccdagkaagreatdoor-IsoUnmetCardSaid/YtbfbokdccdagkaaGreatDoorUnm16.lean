/- Part 16: Term2, Valid7. Conditions: as each part says. -/
import Derived.Test.YtbfbokdccdagkaaGreatDoorUnm13
import Derived.Test.YtbfbokdccdagkaaGreatDoorUnm15
set_option linter.unusedVariables false
set_option linter.unusedSimpArgs false
set_option maxRecDepth 20000
set_option maxHeartbeats 8000000
namespace Go.Proofs.YtbfbokdccdagkaaGreatDoor
open Go.Sx Go.Our
end Go.Proofs.YtbfbokdccdagkaaGreatDoor
namespace Go.Proofs.YtbfbokdccdagkaaGreatDoor
open Go.Sx Go.Our
open Tryz
def Zbj:Plan:=(ZU [(0,1),(1,1),(2,1),(3,1),(5,1),(6,1),(7,1),(4,2),(8,2),(9,3),(10,1)])
abbrev W2(l:List Qd):Prop:=∀q∈l,QdSm q
theorem Z2v(l z:List Qd)(lim:Option Nat)(hl:l.length<=1152921504606846976)(hq:W2 l):Does prog tab 28 1 [.sl (.loc 0) 0 16 l.length lim] [] [(0, .rows 16 ((l++z).map Zl))]
 (ValK 1 (.tup [.int .i64 ((XD l).1:Nat), .int .i64 (XD l).2])):=by
 refine Does.enter Z1 call28 func28 rfl 43 rfl rfl [.tmp 2, .tmp 3] rfl ?_;intro w0 F η0 h0;conv=>whnf
 refine IF.mk (fun h=>?_) (fun h=>?_)
 ·have h:1048576<l.length:=by simp at h;omega
  conv=>whnf
  refine FIN.valueK h0 rfl ?_;unfold XD;rw[if_pos h];rfl
 have hbig:¬1048576<l.length:=by simp at h;omega
 conv=>whnf
 refine LOOP.go Z1 [0,11,12] (X:=Nat) (fun i=>i<=l.length/\badM l 0=badM l i) (fun i=>[(13, .int .i64 (i:Int))]) (fun i=>[]) 1 (fun i=>l.length-i) 0 ⟨by omega,rfl⟩ ?_;conv=>whnf
 refine⟨by exact GOES.cA h0,?_⟩;rintro i ⟨hi,hb⟩;conv=>whnf
 rcases Nat.lt_or_ge i l.length with hil|hil
 ·have hqi:=hq _ (List.getElem_mem hil);rw[Z60 hil]at hb;repeat'((first|(refine GET.at (row:=Zl (l[i]'(by omega))) (by rw[show 0+(i:Int).toNat=i by omega];exact Um (by omega)) ?_;conv=>whnf)|refine CALL.value (Z2u (l[i]'(by omega)) hqi) rfl rfl ?_|refine AU ?_|(refine IW ?_ ?_<;>intro h<;>try(exfalso;omega)))<;>conv=>whnf)
  ·refine FIN.valueK h0 rfl ?_;unfold XD;rw[if_neg hbig,hb,if_pos h]
  ·refine⟨i+1,⟨by omega,by rw[hb,if_neg (by simpa using h)]⟩,by omega,?_⟩;conv=>whnf
   exact GOES.cA h0
 ·rw[Z07 hil]at hb;repeat'((first|refine AU ?_|(refine IW ?_ ?_<;>intro h<;>try(exfalso;omega)))<;>conv=>whnf)
  refine LOOP.go Z1 [0] (X:=Nat) (fun i=>1<=i/\(i<=l.length\/i=1)/\Z08 l 1=Z08 l i) (fun i=>[(7, .int .i64 (i:Int))]) (fun i=>[]) 1 (fun i=>l.length-i) 1 ⟨by omega,by omega,rfl⟩ ?_;conv=>whnf
  refine⟨by exact GOES.cA h0,?_⟩;rintro j ⟨hj1,hj,hf⟩;conv=>whnf
  rcases Nat.lt_or_ge j l.length with hjl|hjl
  ·rw[Z4z hjl]at hf;have hj':(IntKind.i64.wrap ((j:Int)-1)).toNat=j-1:=by rw[Z6 (by omega) (by omega)];omega
   repeat'((first|refine DRAWN.of (id:=13) Z1 mixed Zbj (by kernel_rfl) ?_|refine ADD.mk (fun _ _=>?_)|refine AD ?_|refine FORK.mk ?_ ?_|(refine GET.at (row:=Zl (l[j]'(by omega))) (by rw[show 0+(j:Int).toNat=j by omega];exact Um (by omega)) ?_;conv=>whnf)|(refine GET.at (row:=Zl (l[j-1]'(by omega))) (by rw[show 0+(IntKind.i64.wrap ((j:Int)-1)).toNat=j-1 by omega];exact Um (by omega)) ?_;conv=>whnf)|refine CALL.value (Z3A (l[j-1]'(by omega)) (l[j]'(by omega))) rfl rfl ?_|refine AU ?_|(refine IW ?_ ?_<;>intro h<;>try(exfalso;omega)))<;>conv=>whnf)
   ·refine FIN.valueK h0 rfl ?_;unfold XD;rw[if_neg hbig,hb,hf,if_pos h]
   ·refine⟨j+1,⟨by omega,by omega,by rw[hf,if_neg (by omega)]⟩,by omega,?_⟩;conv=>whnf
    exact GOES.cA h0
  ·rw[WB hjl]at hf;repeat'((first|refine AU ?_|(refine IW ?_ ?_<;>intro h<;>try(exfalso;omega)))<;>conv=>whnf)
   refine FIN.valueK h0 rfl ?_;unfold XD;rw[if_neg hbig,hb,hf];rfl
end Go.Proofs.YtbfbokdccdagkaaGreatDoor
