/- Part 15: Term2, Valid7. Conditions: as each part says. -/
import Derived.Test.YtlcbipfmodcedaaGreatDoorCiso14
set_option linter.unusedVariables false
set_option linter.unusedSimpArgs false
set_option maxRecDepth 20000
set_option maxHeartbeats 8000000
namespace Go.Proofs.YtlcbipfmodcedaaGreatDoor
open Go.Sx Go.Our
end Go.Proofs.YtlcbipfmodcedaaGreatDoor
namespace Go.Proofs.YtlcbipfmodcedaaGreatDoor
open Go.Sx Go.Our
open _root_.Go.Proofs.Tryz
def ZdB:uJ:=(ZI [(0,1),(1,1),(2,1),(3,1),(5,1),(6,1),(7,1),(4,2),(8,2),(9,3),(10,1)])
abbrev nH(l:List Qd):Prop:=∀q∈l,n5 q
theorem WM(l z:List Qd)(lim:Option Nat)(hl:l.length<=1152921504606846976)(hq:nH l):vW prog uv 21 1 [.sl (.loc 0) 0 16 l.length lim] [] [(0, .rows 16 ((l++z).map Zd))]
 (qd 1 (.uI [.int .i64 ((Yr l).1:Nat), .int .i64 (Yr l).2])):=by
 refine vW.enter Z3 call21 func21 rfl 43 rfl rfl [.tmp 2, .tmp 3] rfl ?_;intro w0 F η0 h0;conv=>whnf
 refine IF.mk (fun h=>?_) (fun h=>?_)
 .have h:1048576<l.length:=by simp at h;omega
  conv=>whnf
  refine u9.uh h0 rfl ?_;unfold Yr;rw[z8 h];rfl
 have tR:¬1048576<l.length:=by simp at h;omega
 conv=>whnf
 refine ua.go Z3 [0,11,12] (X:=Nat) (fun i=>i<=l.length/\gl l 0=gl l i) (fun i=>[(13, .int .i64 (i:Int))]) (fun i=>[]) 1 (fun i=>l.length-i) 0 ⟨by omega,rfl⟩ ?_;conv=>whnf
 refine⟨by exact vY.cA h0,?_⟩;rintro i ⟨hi,hb⟩;conv=>whnf
 rcases yD i l.length with hil|hil
 .have hqi:=hq _ (zq hil);rw[G7 hil]at hb;repeat'(first|refine GET.at (row:=Zd (l[i]'(by omega))) (by rw[show 0+(i:Int).toNat=i by omega];exact UV (by omega)) ?_|refine CALL.value (Z3F (l[i]'(by omega)) hqi) rfl rfl ?_|refine AU ?_|refine IW ?_ ?_<;>intro h<;>try omega)<;>conv=>whnf
  .refine u9.uh h0 rfl ?_;unfold Yr;rw[z6 tR,hb,z8 h]
  .refine⟨i+1,⟨by omega,by rw[hb,z6 (by simpa using h)]⟩,by omega,?_⟩;conv=>whnf
   exact vY.cA h0
 .rw[Qi hil]at hb;repeat'(first|refine IW ?_ ?_<;>intro h<;>try omega)<;>conv=>whnf
  refine ua.go Z3 [0] (X:=Nat) (fun i=>1<=i/\(i<=l.length\/i=1)/\oB l 1=oB l i) (fun i=>[(7, .int .i64 (i:Int))]) (fun i=>[]) 1 (fun i=>l.length-i) 1 ⟨by omega,by omega,rfl⟩ ?_;conv=>whnf
  refine⟨by exact vY.cA h0,?_⟩;rintro j ⟨hj1,hj,hf⟩;conv=>whnf
  rcases yD j l.length with hjl|hjl
  .rw[Hv hjl]at hf;have hj':(IntKind.i64.wrap ((j:Int)-1)).toNat=j-1:=by rw[Z4 (by omega) (by omega)];omega
   repeat'(first|refine Zs 13 ZdB ?_|refine qW.mk (fun _ _=>?_)|refine GET.at (row:=Zd (l[j]'(by omega))) (by rw[show 0+(j:Int).toNat=j by omega];exact UV (by omega)) ?_|refine GET.at (row:=Zd (l[j-1]'(by omega))) (by rw[show 0+(IntKind.i64.wrap ((j:Int)-1)).toNat=j-1 by omega];exact UV (by omega)) ?_|refine CALL.value (Cv (l[j-1]'(by omega)) (l[j]'(by omega))) rfl rfl ?_|refine AU ?_|refine IW ?_ ?_<;>intro h<;>try omega)<;>conv=>whnf
   .refine u9.uh h0 rfl ?_;unfold Yr;rw[z6 tR,hb,hf,z8 h]
   .refine⟨j+1,⟨by omega,by omega,by rw[hf,z6 (by omega)]⟩,by omega,?_⟩;conv=>whnf
    exact vY.cA h0
  .rw[G8 hjl]at hf;repeat'(first|refine IW ?_ ?_<;>intro h<;>try omega)<;>conv=>whnf
   refine u9.uh h0 rfl ?_;unfold Yr;rw[z6 tR,hb,hf];rfl
end Go.Proofs.YtlcbipfmodcedaaGreatDoor
