/- Part 23: RCan1. Conditions: as each part says. -/
import Derived.Test.YtlcbipfmodcedaaGreatDoorFrm21
import Derived.Test.YtlcbipfmodcedaaGreatDoorFrm22
set_option linter.unusedVariables false
set_option linter.unusedSimpArgs false
set_option maxRecDepth 20000
set_option maxHeartbeats 8000000
namespace Go.Proofs.YtlcbipfmodcedaaGreatDoor
open Go.Sx Go.Our Go.Lib
open _root_.Go.Proofs.Tryz
theorem LS(least k:Nat)(hk:k<4611686018427387904)(hle:least<=4):vS prog uf 116 0 [.int .i64 (k:Int), .int .i64 (least:Int)] [] [] (uN (.str (fE least k []))):=by
 refine vS.enter Z0 call116 func116 rfl 25 rfl rfl [.tmp 4] rfl ?_;intro w0 F η0 h0;conv=>whnf
 refine vZ.go Z0 [1] (X:=Nat×List UInt8) (fun x=>x.1<=k/\x.2.length+x.1<=k+4/\fE least x.1 x.2=fE least k []) (fun x=>[(0, .int .i64 (x.1:Int)),(5, .str x.2)]) (fun _=>[]) 0 (fun x=>x.1+(least-x.2.length)) (k,[]) ⟨zo _,by simp,rfl⟩ ?_;conv=>whnf
 refine⟨by exact vU.cA h0,?_⟩;rintro⟨n,s⟩ ⟨hn,hs,hd⟩;dsimp only at hn hs hd;have h1:(n:Int).tmod 10=((n%10:Nat):Int):=by rw[Int.tmod_eq_emod_of_nonneg (by omega)];omega
 have h2:(n:Int).tdiv 10=((n/10:Nat):Int):=by rw[xe (by omega)];omega
 have h3:IntKind.u8.wrap (IntKind.i64.wrap (48+(n:Int).tmod 10))=(((UInt8.ofNat (48+n%10)).toNat:Nat):Int):=by
  rw[h1,Z9 (by omega) (by omega),IntWalk.u8_in _ ⟨by omega,by omega⟩,v7];omega
 have h4:IntKind.i64.wrap ((n:Int).tdiv 10)=((n/10:Nat):Int):=by rw[h2,Z9 (by omega) (by omega)]
 have hc:([[SV.int IntKind.u8 (IntKind.u8.wrap (IntKind.i64.wrap (48+(n:Int).tmod 10)))]]:List (List SV))=[UInt8.ofNat (48+n%10)].map Go.Sx.bytesRow:=by rw[h3];rfl
 conv=>whnf
 repeat'(first|refine u6.mk ⟨rfl,_,hc⟩ ?_|refine u6.mk (by simp;omega) ?_|refine AU ?_|refine IW ?_ ?_<;>intro h<;>try omega)<;>conv=>whnf
 .have hb:List.map iB (List.take 1 (List.drop 0 [[SV.int IntKind.u8 (IntKind.u8.wrap (IntKind.i64.wrap (48+(n:Int).tmod 10)))]]))=[UInt8.ofNat (48+n%10)]:=by
   rw[h3];show [UInt8.ofNat (((UInt8.ofNat (48+n%10)).toNat:Nat):Int).toNat]=_
   rw[Int.toNat_natCast,UInt8.ofNat_toNat]
  have mA:0<n\/s.length<least:=by simp at h;omega
  refine⟨(n/10,[UInt8.ofNat (48+n%10)]++s),⟨by dsimp only;omega,by simp;omega,?_⟩,by simp;omega,?_⟩
  .dsimp only;rw[<-hd,<-Zg2 mA];rfl
  .dsimp only;rw[h4,hb];conv=>whnf
   exact vU.cA h0
 .have hn0:n=0/\least<=s.length:=by simp at h;omega
  refine u0.value h0 rfl (z8 SV.str ?_);rw[<-hd,hn0.1,Zic hn0.2]
def oI(L:List Int):List (Int×Int):=L.map fun k=>(k,1)
theorem LU(c:Int):∀L:List Int,wM c 1 (oI L)=oI (if c∈L then L else L++ [c])
 | []=>by simp[oI,wM]
 |k::L=>by
  have ih:=LU c L;unfold oI at ih⊢;rw[zG];unfold wM;by_cases e:c=k
  subst e;simp
  .rw[z7 e,ih];by_cases h:c∈L
   rw[zf h,zf (zK _ h)];rfl;rw[z7 h,z7 (fun h2=>(zL.1 h2).elim e h)];rfl
theorem ZeG(L:List Int):Zj (Up KI (SV.int .i64) (oI L))=true:=DT KI _ (fun _=>rfl) _
instance {L:List Int}:Pl (Up KI (SV.int .i64) (oI L)):=⟨ZeG L⟩
theorem LV(cl:List Int)(lim:Option Nat)(hc:cl.length<=1048576):vS prog uf 69 1 [.sl (.loc 0) 0 1 cl.length lim] [] [(0, .rows 1 (cl.map Zg))] (fun r O nx=>r= .int .i64 (wO cl:Int)/\O=[]/\nx=1):=by
 refine vS.enter Z0 call69 func69 rfl 19 rfl rfl [.tmp 2] rfl ?_;intro w0 F η0 h0;conv=>whnf
 skip
 refine vZ.kj Z0 [0,3] [] (X:=Nat) (fun i=>i<=cl.length) (fun i=>[(4, .int .i64 (i:Int))]) (fun i=>[(1, .mp (Up KI (SV.int .i64) (oI (ZK (cl.take i)))))]) 2 (fun i=>cl.length-i) 0 (by omega) ?_;conv=>whnf
 refine⟨by exact vU.kA h0 [1],?_⟩;intro i hi;have hfl:=C2 cl i;conv=>whnf
 by_cases hil:i<cl.length
 .have hs:=Vf cl hil;have wK:=(DR KI (SV.int .i64) cl[i] 1 (oI (ZK (cl.take i)))).trans (by rw[LU,<-hs]);have gC:∀{k:Nat},k=i->(cl.map Zg)[k]?=some (Zg cl[i]):=fun e=>by subst e;rw[z6,z1 hil];rfl
  repeat'(first|refine GET.at (gC (by omega)) ?_|refine u6.mk ⟨KI.ok _,JR KI _ _⟩ ?_|refine AU ?_|refine IW ?_ ?_<;>intro h<;>try omega)<;>conv=>whnf
  rw[show jZ (false,[CK.int IntKind.i64]) (je (SV.int .i64 cl[i])) (YG (Value.int .i64 1)) (Up KI (SV.int .i64) (oI (ZK (cl.take i))))=Up KI (SV.int .i64) (oI (ZK (cl.take (i+1))))from wK];refine⟨i+1,by omega,by omega,?_⟩;conv=>whnf
  exact vU.kA h0 [1]
 .repeat'(first|refine IW ?_ ?_<;>intro h<;>try omega)<;>conv=>whnf
  have hie:i=cl.length:=by omega
  subst hie;rw[y8,show(Up KI (SV.int .i64) (oI (ZK cl))).length=wO cl from by simp[Up,oI,wO]];exact u0.aA h0 [] (.int .i64 (wO cl:Int)) [] ⟨rfl,rfl,rfl⟩
end Go.Proofs.YtlcbipfmodcedaaGreatDoor
