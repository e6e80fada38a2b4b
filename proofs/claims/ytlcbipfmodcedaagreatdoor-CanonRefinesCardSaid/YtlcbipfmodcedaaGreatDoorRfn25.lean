/- Part 25: RCan1. Conditions: as each part says. -/
import Derived.Test.YtlcbipfmodcedaaGreatDoorRfn23
import Derived.Test.YtlcbipfmodcedaaGreatDoorRfn24
set_option linter.unusedVariables false
set_option linter.unusedSimpArgs false
set_option maxRecDepth 20000
set_option maxHeartbeats 8000000
namespace Go.Proofs.YtlcbipfmodcedaaGreatDoor
open Go.Sx Go.Our Go.Lib
open Tryz
theorem Z7T(least k:Nat)(hk:k<4611686018427387904)(hle:least<=4):Does prog tab 116 0 [.int .i64 (k:Int), .int .i64 (least:Int)] [] [] (Val (.str (padN least k []))):=by
 refine Does.enter Z0 call116 func116 rfl 25 rfl rfl [.tmp 4] rfl ?_;intro w0 F η0 h0;conv=>whnf
 refine LOOP.go Z0 [1] (X:=Nat×List UInt8) (fun x=>x.1<=k/\x.2.length+x.1<=k+4/\padN least x.1 x.2=padN least k []) (fun x=>[(0, .int .i64 (x.1:Int)),(5, .str x.2)]) (fun _=>[]) 0 (fun x=>x.1+(least-x.2.length)) (k,[]) ⟨Nat.le_refl _,by simp,rfl⟩ ?_;conv=>whnf
 refine⟨by exact GOES.cA h0,?_⟩;rintro⟨n,s⟩ ⟨hn,hs,hd⟩;dsimp only at hn hs hd;have h1:(n:Int).tmod 10=((n%10:Nat):Int):=by rw[Int.tmod_eq_emod_of_nonneg (by omega)];omega
 have h2:(n:Int).tdiv 10=((n/10:Nat):Int):=by rw[Int.tdiv_eq_ediv_of_nonneg (by omega)];omega
 have h3:IntKind.u8.wrap (IntKind.i64.wrap (48+(n:Int).tmod 10))=(((UInt8.ofNat (48+n%10)).toNat:Nat):Int):=by
  rw[h1,Z9 (by omega) (by omega),IntWalk.u8_in _ ⟨by omega,by omega⟩,UInt8.toNat_ofNat'];omega
 have h4:IntKind.i64.wrap ((n:Int).tdiv 10)=((n/10:Nat):Int):=by rw[h2,Z9 (by omega) (by omega)]
 have hc:([[SV.int IntKind.u8 (IntKind.u8.wrap (IntKind.i64.wrap (48+(n:Int).tmod 10)))]]:List (List SV))=[UInt8.ofNat (48+n%10)].map Go.Sx.bytesRow:=by rw[h3];rfl
 conv=>whnf
 repeat'((first|refine ADD.mk (fun _ _=>?_)|refine AD ?_|refine FORK.mk ?_ ?_|(refine NEED.mk ⟨rfl,_,hc⟩ ?_;conv=>whnf)|(refine NEED.mk (by simp;omega) ?_;conv=>whnf)|refine AU ?_|(refine IW ?_ ?_<;>intro h<;>try(exfalso;omega)))<;>conv=>whnf)
 ·have hb:List.map Z0U (List.take 1 (List.drop 0 [[SV.int IntKind.u8 (IntKind.u8.wrap (IntKind.i64.wrap (48+(n:Int).tmod 10)))]]))=[UInt8.ofNat (48+n%10)]:=by
   rw[h3];show [UInt8.ofNat (((UInt8.ofNat (48+n%10)).toNat:Nat):Int).toNat]=_
   rw[Int.toNat_natCast,UInt8.ofNat_toNat]
  have hc2:0<n\/s.length<least:=by simp at h;omega
  refine⟨(n/10,[UInt8.ofNat (48+n%10)]++s),⟨by dsimp only;omega,by simp;omega,?_⟩,by simp;omega,?_⟩
  ·dsimp only;rw[<-hd,<-ZeF hc2];rfl
  ·dsimp only;rw[h4,hb];conv=>whnf
   exact GOES.cA h0
 ·have hn0:n=0/\least<=s.length:=by simp at h;omega
  refine FIN.value h0 rfl (congrArg SV.str ?_);rw[<-hd,hn0.1,Zgu hn0.2]
def Z29(L:List Int):List (Int×Int):=L.map fun k=>(k,1)
theorem Zaf(c:Int):∀L:List Int,setA c 1 (Z29 L)=Z29 (if c∈L then L else L++ [c])
 | []=>by simp[Z29,setA]
 |k::L=>by
  have ih:=Zaf c L;unfold Z29 at ih⊢;rw[List.map_cons];unfold setA;by_cases e:c=k
  ·subst e;simp
  ·rw[if_neg e,ih];by_cases h:c∈L
   ·rw[if_pos h,if_pos (List.mem_cons_of_mem _ h)];rfl
   ·rw[if_neg h,if_neg (fun h2=>(List.mem_cons.1 h2).elim e h)];rfl
theorem Zdv(L:List Int):Zh (Um KI (SV.int .i64) (Z29 L))=true:=Z8D KI _ (fun _=>rfl) _
instance {L:List Int}:Pl (Um KI (SV.int .i64) (Z29 L)):=⟨Zdv L⟩
theorem Z0L(cl:List Int)(lim:Option Nat)(hc:cl.length<=1048576):Does prog tab 69 1 [.sl (.loc 0) 0 1 cl.length lim] [] [(0, .rows 1 (cl.map Zk))] (fun r O nx=>r= .int .i64 (clsN cl:Int)/\O=[]/\nx=1):=by
 refine Does.enter Z0 call69 func69 rfl 19 rfl rfl [.tmp 2] rfl ?_;intro w0 F η0 h0;conv=>whnf
 repeat'((first|refine AU ?_|(refine IW ?_ ?_<;>intro h<;>try(exfalso;omega)))<;>conv=>whnf)
 refine LOOP.gok Z0 [0,3] [] (X:=Nat) (fun i=>i<=cl.length) (fun i=>[(4, .int .i64 (i:Int))]) (fun i=>[(1, .mp (Um KI (SV.int .i64) (Z29 (ZH (cl.take i)))))]) 2 (fun i=>cl.length-i) 0 (by omega) ?_;conv=>whnf
 refine⟨by exact GOES.kA h0 [1],?_⟩;intro i hi;have hfl:=Z17 cl i;conv=>whnf
 by_cases hil:i<cl.length
 ·have hs:=Va cl hil;have hset:=(ZcI KI (SV.int .i64) cl[i] 1 (Z29 (ZH (cl.take i)))).trans (by rw[Zaf,<-hs]);have gC:∀{k:Nat},k=i->(cl.map Zk)[k]?=some (Zk cl[i]):=fun e=>by subst e;rw[List.getElem?_map,List.getElem?_eq_getElem hil];rfl
  repeat'((first|(refine GET.at (gC (by omega)) ?_;conv=>whnf)|(refine NEED.mk ⟨KI.ok _,Xq KI _ _⟩ ?_;conv=>whnf)|refine AU ?_|(refine IW ?_ ?_<;>intro h<;>try(exfalso;omega)))<;>conv=>whnf)
  rw[show setM (false,[CK.int IntKind.i64]) (flKey (SV.int .i64 cl[i])) (X4 (Value.int .i64 1)) (Um KI (SV.int .i64) (Z29 (ZH (cl.take i))))=Um KI (SV.int .i64) (Z29 (ZH (cl.take (i+1))))from hset];refine⟨i+1,by omega,by omega,?_⟩;conv=>whnf
  exact GOES.kA h0 [1]
 ·repeat'((first|refine AU ?_|(refine IW ?_ ?_<;>intro h<;>try(exfalso;omega)))<;>conv=>whnf)
  have hie:i=cl.length:=by omega
  subst hie;rw[List.take_length,show(Um KI (SV.int .i64) (Z29 (ZH cl))).length=clsN cl from by simp[Um,Z29,clsN]];exact FIN.aA h0 [] (.int .i64 (clsN cl:Int)) [] ⟨rfl,rfl,rfl⟩
end Go.Proofs.YtlcbipfmodcedaaGreatDoor
