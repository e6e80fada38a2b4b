import Derived.Test.YtlcbipfmodcedaaGreatDoorTxt7
import Derived.Test.YtlcbipfmodcedaaGreatDoorTxt8
set_option linter.unusedVariables false
set_option linter.unusedSimpArgs false
set_option maxRecDepth 20000
set_option maxHeartbeats 8000000
namespace Go.Proofs.YtlcbipfmodcedaaGreatDoor
open Go.Sx Go.Our
open _root_.Go.Proofs.Tryz
def SE:wP:=(Zr [(0,1),(1,1),(2,1),(3,1),(5,1),(6,1),(7,1),(4,2),(8,2),(9,3),(10,1)])
abbrev nC(l:List Qd):Prop:=∀q∈l,bT q
theorem SF(l z:List Qd)(lim:Option Nat)(hl:l.length<=1152921504606846976)(hq:nC l):uX prog wD 21 1 [.sl (.loc 0) 0 16 l.length lim] [] [(0, .rows 16 ((l++z).map Z4))]
 (qE 1 (.wM [.int .i64 ((ZK l).1:Nat), .int .i64 (ZK l).2])):=by
 refine uX.enter Z0 call21 func21 rfl 43 rfl rfl [.tmp 2, .tmp 3] rfl ?_;intro w0 F η0 h0;conv=>whnf
 refine IF.mk (fun h=>?_) (fun h=>?_)
 .have h:1048576<l.length:=by simp at h;omega
  conv=>whnf
  refine wh.wC h0 rfl ?_;unfold ZK;rw[zh h];rfl
 have oO:¬1048576<l.length:=by simp at h;omega
 conv=>whnf
 refine wj.go Z0 [0,11,12] (X:=Nat) (fun i=>i<=l.length/\fG l 0=fG l i) (fun i=>[(13, .int .i64 (i:Int))]) (fun i=>[]) 1 (fun i=>l.length-i) 0 ⟨by omega,rfl⟩ ?_;conv=>whnf
 refine⟨by exact w5.cA h0,?_⟩;rintro i ⟨hi,hb⟩;conv=>whnf
 rcases y9 i l.length with hil|hil
 .have hqi:=hq _ (zm hil);rw[Fj hil]at hb;repeat'(first|refine GET.at (row:=Z4 (l[i]'(by omega))) (by rw[show 0+(i:Int).toNat=i by omega];exact Jn (by omega)) ?_|refine CALL.value (Wh (l[i]'(by omega)) hqi) rfl rfl ?_|refine AU ?_|refine IW ?_ ?_<;>intro h<;>try omega)<;>conv=>whnf
  .refine wh.wC h0 rfl ?_;unfold ZK;rw[z7 oO,hb,zh h]
  .refine⟨i+1,⟨by omega,by rw[hb,z7 (by simpa using h)]⟩,by omega,?_⟩;conv=>whnf
   exact w5.cA h0
 .rw[Fi hil]at hb;repeat'(first|refine IW ?_ ?_<;>intro h<;>try omega)<;>conv=>whnf
  refine wj.go Z0 [0] (X:=Nat) (fun i=>1<=i/\(i<=l.length\/i=1)/\pP l 1=pP l i) (fun i=>[(7, .int .i64 (i:Int))]) (fun i=>[]) 1 (fun i=>l.length-i) 1 ⟨by omega,by omega,rfl⟩ ?_;conv=>whnf
  refine⟨by exact w5.cA h0,?_⟩;rintro j ⟨hj1,hj,hf⟩;conv=>whnf
  rcases y9 j l.length with hjl|hjl
  .rw[EF hjl]at hf;have hj':(IntKind.i64.wrap ((j:Int)-1)).toNat=j-1:=by rw[Z5 (by omega) (by omega)];omega
   repeat'(first|refine Z3 13 SE ?_|refine qJ.mk (fun _ _=>?_)|refine GET.at (row:=Z4 (l[j]'(by omega))) (by rw[show 0+(j:Int).toNat=j by omega];exact Jn (by omega)) ?_|refine GET.at (row:=Z4 (l[j-1]'(by omega))) (by rw[show 0+(IntKind.i64.wrap ((j:Int)-1)).toNat=j-1 by omega];exact Jn (by omega)) ?_|refine CALL.value (A0 (l[j-1]'(by omega)) (l[j]'(by omega))) rfl rfl ?_|refine AU ?_|refine IW ?_ ?_<;>intro h<;>try omega)<;>conv=>whnf
   .refine wh.wC h0 rfl ?_;unfold ZK;rw[z7 oO,hb,hf,zh h]
   .refine⟨j+1,⟨by omega,by omega,by rw[hf,z7 (by omega)]⟩,by omega,?_⟩;conv=>whnf
    exact w5.cA h0
  .rw[EE hjl]at hf;repeat'(first|refine IW ?_ ?_<;>intro h<;>try omega)<;>conv=>whnf
   refine wh.wC h0 rfl ?_;unfold ZK;rw[z7 oO,hb,hf];rfl
theorem SG(l z:List Qd)(lim:Option Nat)(hl:l.length<=1152921504606846976)(hq:nC l):uX prog wD 65 1 [.sl (.loc 0) 0 16 l.length lim] [] [(0, .rows 16 ((l++z).map Z4))]
 (qE 1 (.wM [.int .i64 ((ZK l).1:Nat), .int .i64 (ZK l).2])):=by
 refine uX.enter Z0 call65 func65 rfl 43 rfl rfl [.tmp 2, .tmp 3] rfl ?_;intro w0 F η0 h0;conv=>whnf
 refine IF.mk (fun h=>?_) (fun h=>?_)
 .have h:1048576<l.length:=by simp at h;omega
  conv=>whnf
  refine wh.wC h0 rfl ?_;unfold ZK;rw[zh h];rfl
 have oO:¬1048576<l.length:=by simp at h;omega
 conv=>whnf
 refine wj.go Z0 [0] (X:=Nat) (fun i=>i<=l.length/\fG l 0=fG l i) (fun i=>[(4, .int .i64 (i:Int))]) (fun i=>[]) 1 (fun i=>l.length-i) 0 ⟨by omega,rfl⟩ ?_;conv=>whnf
 refine⟨by exact w5.cA h0,?_⟩;rintro i ⟨hi,hb⟩;conv=>whnf
 rcases y9 i l.length with hil|hil
 .have hqi:=hq _ (zm hil);rw[Fj hil]at hb;repeat'(first|refine GET.at (row:=Z4 (l[i]'(by omega))) (by rw[show 0+(i:Int).toNat=i by omega];exact Jn (by omega)) ?_|refine CALL.value (Wu (l[i]'(by omega)) hqi) rfl rfl ?_|refine AU ?_|refine IW ?_ ?_<;>intro h<;>try omega)<;>conv=>whnf
  .refine wh.wC h0 rfl ?_;unfold ZK;rw[z7 oO,hb,zh h]
  .refine⟨i+1,⟨by omega,by rw[hb,z7 (by simpa using h)]⟩,by omega,?_⟩;conv=>whnf
   exact w5.cA h0
 .rw[Fi hil]at hb;repeat'(first|refine IW ?_ ?_<;>intro h<;>try omega)<;>conv=>whnf
  refine wj.go Z0 [0] (X:=Nat) (fun i=>1<=i/\(i<=l.length\/i=1)/\pP l 1=pP l i) (fun i=>[(6, .int .i64 (i:Int))]) (fun i=>[]) 1 (fun i=>l.length-i) 1 ⟨by omega,by omega,rfl⟩ ?_;conv=>whnf
  refine⟨by exact w5.cA h0,?_⟩;rintro j ⟨hj1,hj,hf⟩;conv=>whnf
  rcases y9 j l.length with hjl|hjl
  .rw[EF hjl]at hf;have hj':(IntKind.i64.wrap ((j:Int)-1)).toNat=j-1:=by rw[Z5 (by omega) (by omega)];omega
   repeat'(first|refine Z3 12 SE ?_|refine qJ.mk (fun _ _=>?_)|refine GET.at (row:=Z4 (l[j]'(by omega))) (by rw[show 0+(j:Int).toNat=j by omega];exact Jn (by omega)) ?_|refine GET.at (row:=Z4 (l[j-1]'(by omega))) (by rw[show 0+(IntKind.i64.wrap ((j:Int)-1)).toNat=j-1 by omega];exact Jn (by omega)) ?_|refine CALL.value (Xf (l[j-1]'(by omega)) (l[j]'(by omega))) rfl rfl ?_|refine AU ?_|refine IW ?_ ?_<;>intro h<;>try omega)<;>conv=>whnf
   .refine wh.wC h0 rfl ?_;unfold ZK;rw[z7 oO,hb,hf,zh h]
   .refine⟨j+1,⟨by omega,by omega,by rw[hf,z7 (by omega)]⟩,by omega,?_⟩;conv=>whnf
    exact w5.cA h0
  .rw[EE hjl]at hf;repeat'(first|refine IW ?_ ?_<;>intro h<;>try omega)<;>conv=>whnf
   refine wh.wC h0 rfl ?_;unfold ZK;rw[z7 oO,hb,hf];rfl
