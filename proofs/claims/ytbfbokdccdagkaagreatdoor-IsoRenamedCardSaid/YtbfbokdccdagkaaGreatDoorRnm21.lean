/- Part 21: Bij1, Shuf. Conditions: as each part says. -/
import Derived.Test.YtbfbokdccdagkaaGreatDoorRnm17
import Derived.Test.YtbfbokdccdagkaaGreatDoorRnm20
set_option linter.unusedVariables false
set_option linter.unusedSimpArgs false
set_option maxRecDepth 20000
set_option maxHeartbeats 8000000
namespace Go.Proofs.YtbfbokdccdagkaaGreatDoor
open Go.Sx Go.Our
open Tryz
def Zc7:Plan:=(ZT [(0,1),(1,1),(2,1),(4,1),(5,1),(6,1),(3,2),(7,2),(8,1)])
def ZfB:Plan:=(.take 0 1 (.take 1 1 (.take 5 1 (.take 6 1 (.take 2 2 (.fork 3 3 7 3 (.fork 4 0 7 3 (ZT [(7,2),(8,3),(9,0),(10,1),(11,1)]) (.fork 4 0 8 3 (ZT [(8,3),(9,0),(10,1),(11,1)]) (ZT [(4,0),(9,0),(10,1),(11,1)]))) (.fork 3 3 8 3 (.fork 4 0 8 3 (ZT [(8,3),(9,0),(10,1),(11,1)]) (ZT [(4,0),(9,0),(10,1),(11,1)])) (ZT [(3,3),(4,0),(9,0),(10,1),(11,1)]))))))))
theorem Z6A{α:Type}{l m:List α}{i:Nat}(hl:i<l.length)(hm:i<m.length)(h:l.take i=m.take i):l[i]=m[i]<->l.take (i+1)=m.take (i+1):=by
 rw[List.take_succ_eq_append_getElem hl,List.take_succ_eq_append_getElem hm,h];exact⟨fun e=>by rw[e],fun e=>(List.singleton_inj.1 (List.append_cancel_left e))⟩
theorem Zh3{x y:Qd}(h:x.s.k=y.s.k/\x.s.t=y.s.t/\x.s.y=y.s.y/\x.s.l=y.s.l/\x.p.k=y.p.k/\x.p.t=y.p.t/\x.p.y=y.p.y/\x.p.l=y.p.l/\x.o.k=y.o.k/\x.o.t=y.o.t/\x.o.y=y.o.y/\x.o.l=y.o.l/\x.g.k=y.g.k/\x.g.t=y.g.t/\x.g.y=y.g.y/\x.g.l=y.g.l):x=y:=by
 obtain⟨⟨_,_,_,_⟩,⟨_,_,_,_⟩,⟨_,_,_,_⟩,⟨_,_,_,_⟩⟩:=x;obtain⟨⟨_,_,_,_⟩,⟨_,_,_,_⟩,⟨_,_,_,_⟩,⟨_,_,_,_⟩⟩:=y;obtain⟨rfl,rfl,rfl,rfl,rfl,rfl,rfl,rfl,rfl,rfl,rfl,rfl,rfl,rfl,rfl,rfl⟩:=h
 rfl
theorem Z2H(l m zl zm:List Qd)(lA lB:Option Nat)(hl:(l++zl).length<=1152921504606846976)(hm:(m++zm).length<=1152921504606846976):Does prog tab 48 2 [.sl (.loc 0) 0 16 l.length lA, .sl (.loc 1) 0 16 m.length lB] [] [(0, .rows 16 ((l++zl).map Zk)),(1, .rows 16 ((m++zm).map Zk))] (ValK 2 (.bool (decide (l=m)))):=by
 have hl1:(l++zl).length=l.length+zl.length:=List.length_append;have hm1:(m++zm).length=m.length+zm.length:=List.length_append;have get:∀{l z:List Qd} {i k:Nat} (h:i<l.length) (e:k=i),((l++z).map Zk)[k]?=some (Zk l[i]):=fun h e=>by subst e;rw[List.getElem?_map,List.getElem?_append_left h,List.getElem?_eq_getElem h];rfl
 refine Does.enter Z1 call48 func48 rfl 26 rfl rfl [.tmp 4] rfl ?_;intro w0 F η0 h0;conv=>whnf
 repeat'((first|refine AU ?_|(refine IW ?_ ?_<;>intro h<;>try(exfalso;omega)))<;>conv=>whnf)
 ·exact FIN.valueK h0 rfl (congrArg SV.bool (decide_eq_false fun e=>by subst e;omega).symm)
 have hlm:l.length=m.length:=by omega
 refine LOOP.gok Z1 [0,1,12] [] (X:=Nat) (fun i=>i<=l.length/\l.take i=m.take i) (fun i=>[(13, .int .i64 (i:Int))]) (fun i=>[]) 2 (fun i=>l.length-i) 0 ⟨by omega,rfl⟩ ?_;conv=>whnf
 refine⟨by exact GOES.kA h0 [],?_⟩;rintro i ⟨hi,ht⟩;conv=>whnf
 by_cases hil:i<l.length
 ·have hs:=Z6A hil (hlm▸hil) ht;repeat'((first|refine DRAWN.of (id:=6) Z1 mixed Zc7 (by kernel_rfl) ?_|refine ADD.mk (fun _ _=>?_)|refine AD ?_|refine FORK.mk ?_ ?_|(refine GET.at (get hil (by omega)) ?_;conv=>whnf)|(refine GET.at (get (hlm▸hil) (by omega)) ?_;conv=>whnf)|refine AU ?_|(refine IW ?_ ?_<;>intro h<;>try(exfalso;omega)))<;>conv=>whnf)
  ·exact FIN.valueK h0 rfl (congrArg SV.bool (decide_eq_false fun e=>by subst e;simp at h).symm)
  refine⟨i+1,⟨by omega,hs.1 (Zh3 h)⟩,by omega,?_⟩;conv=>whnf
  exact GOES.kA h0 []
 ·repeat'((first|refine AU ?_|(refine IW ?_ ?_<;>intro h<;>try(exfalso;omega)))<;>conv=>whnf)
  rw[show i=l.length by omega,List.take_length,hlm,List.take_length]at ht;exact FIN.valueK h0 rfl (congrArg SV.bool (decide_eq_true ht).symm)
theorem Z2I(l m zl zm:List LB)(lA lB:Option Nat)(hl:(l++zl).length<=1152921504606846976)(hm:(m++zm).length<=1152921504606846976):Does prog tab 75 2 [.sl (.loc 0) 0 1 l.length lA, .sl (.loc 1) 0 1 m.length lB] [] [(0, .rows 1 ((l++zl).map Z3)),(1, .rows 1 ((m++zm).map Z3))] (ValK 2 (.bool (decide (l=m)))):=by
 have hl1:(l++zl).length=l.length+zl.length:=List.length_append;have hm1:(m++zm).length=m.length+zm.length:=List.length_append;have get:∀{l z:List LB} {i k:Nat} (h:i<l.length) (e:k=i),((l++z).map Z3)[k]?=some (Z3 l[i]):=fun h e=>by subst e;rw[List.getElem?_map,List.getElem?_append_left h,List.getElem?_eq_getElem h];rfl
 refine Does.enter Z1 call75 func75 rfl 26 rfl rfl [.tmp 4] rfl ?_;intro w0 F η0 h0;conv=>whnf
 repeat'((first|refine AU ?_|(refine IW ?_ ?_<;>intro h<;>try(exfalso;omega)))<;>conv=>whnf)
 ·exact FIN.valueK h0 rfl (congrArg SV.bool (decide_eq_false fun e=>by subst e;omega).symm)
 have hlm:l.length=m.length:=by omega
 refine LOOP.gok Z1 [0,1,12] [] (X:=Nat) (fun i=>i<=l.length/\l.take i=m.take i) (fun i=>[(13, .int .i64 (i:Int))]) (fun i=>[]) 2 (fun i=>l.length-i) 0 ⟨by omega,rfl⟩ ?_;conv=>whnf
 refine⟨by exact GOES.kA h0 [],?_⟩;rintro i ⟨hi,ht⟩;conv=>whnf
 by_cases hil:i<l.length
 ·have hs:=Z6A hil (hlm▸hil) ht;repeat'((first|refine DRAWN.of (id:=6) Z1 mixed Zc7 (by kernel_rfl) ?_|refine ADD.mk (fun _ _=>?_)|refine AD ?_|refine FORK.mk ?_ ?_|(refine GET.at (get hil (by omega)) ?_;conv=>whnf)|(refine GET.at (get (hlm▸hil) (by omega)) ?_;conv=>whnf)|refine AU ?_|(refine IW ?_ ?_<;>intro h<;>try(exfalso;omega)))<;>conv=>whnf)
  ·exact FIN.valueK h0 rfl (congrArg SV.bool (decide_eq_false fun e=>by subst e;simp at h).symm)
  refine⟨i+1,⟨by omega,hs.1 (id h)⟩,by omega,?_⟩;conv=>whnf
  exact GOES.kA h0 []
 ·repeat'((first|refine AU ?_|(refine IW ?_ ?_<;>intro h<;>try(exfalso;omega)))<;>conv=>whnf)
  rw[show i=l.length by omega,List.take_length,hlm,List.take_length]at ht;exact FIN.valueK h0 rfl (congrArg SV.bool (decide_eq_true ht).symm)
theorem Zc8{ps:List Pr}{i:Nat}(h:i<ps.length):(ps.take (i+1)).map Prod.fst=(ps.take i).map Prod.fst++ [ps[i].1]/\(ps.take (i+1)).map Prod.snd=(ps.take i).map Prod.snd++ [ps[i].2]:=by
 rw[List.take_succ_eq_append_getElem h,List.map_append,List.map_append];exact⟨rfl,rfl⟩
theorem ZdL(x y zx zy:List LB)(ps zp:List Pr)(lX lY lP:Option Nat)(hx:(x++zx).length<=1152921504606846976)(hy:(y++zy).length<=1152921504606846976)(hp:(ps++zp).length<=1152921504606846976)(hs:x.length*16<=140737488351232):Does prog tab 47 3 [.sl (.loc 0) 0 1 x.length lX, .sl (.loc 1) 0 1 y.length lY, .sl (.loc 2) 0 2 ps.length lP] [] [(0, .rows 1 ((x++zx).map Z3)),(1, .rows 1 ((y++zy).map Z3)),(2, .rows 2 ((ps++zp).map XD))] (ValK 3 (.bool (bijM x y ps))):=by
 have hp1:(ps++zp).length=ps.length+zp.length:=List.length_append;refine Does.enter Z1 call47 func47 rfl 52 rfl rfl [.tmp 6] rfl ?_;intro w0 F η0 h0;conv=>whnf
 repeat'((first|refine AU ?_|(refine IW ?_ ?_<;>intro h<;>try(exfalso;omega)))<;>conv=>whnf)
 ·exact FIN.valueK h0 rfl (congrArg SV.bool (h.elim (fun h=>Zdn (by omega)) fun h=>Zdo (by omega)).symm)
 have e1:ps.length=x.length:=by omega
 have e2:x.length=y.length:=by omega
 refine LOOP.nil 7 1 rfl ?_;refine LOOP.nil 8 1 rfl ?_;refine LOOP.gok Z1 [0,1,23,24] [] (X:=Nat) (fun i=>i<=ps.length) (fun i=>[(25, .int .i64 (i:Int)),(7, .sl (.loc 3) 0 1 ((ps.take i).map Prod.fst).length none),(8, .sl (.loc 4) 0 1 ((ps.take i).map Prod.snd).length none)]) (fun i=>[(3, .rows 1 (((ps.take i).map Prod.fst).map Z3)),(4, .rows 1 (((ps.take i).map Prod.snd).map Z3))]) 5 (fun i=>ps.length-i) 0 (by omega) ?_;conv=>whnf
 refine⟨by exact GOES.kA h0 [3,4],?_⟩;intro i hi;have hl1:((ps.take i).map Prod.fst).length=i:=by simp;omega
 have hl2:((ps.take i).map Prod.snd).length=i:=by simp;omega
 conv=>whnf
 by_cases hil:i<ps.length
 ·have hs:=Zc8 hil;generalize(ps.take i).map Prod.fst=A at*;generalize(ps.take i).map Prod.snd=B at*;repeat'((first|refine DRAWN.of (id:=7) Z1 mixed ZfB (by kernel_rfl) ?_|refine ADD.mk (fun _ _=>?_)|refine AD ?_|refine FORK.mk ?_ ?_|(refine GET.at (row:=XD (ps[i]'(by omega))) (Z3N (by omega) (by omega)) ?_;conv=>whnf)|(refine NEED.mk (Yg 16 rfl rfl (by simp) (by simp) (by omega)) ?_;conv=>whnf)|refine AU ?_|(refine IW ?_ ?_<;>intro h<;>try(exfalso;omega)))<;>conv=>whnf)
  all_goals
   refine⟨i+1,by omega,by omega,?_⟩;rw[hs.1,hs.2];conv=>whnf
  ·exact GOES.kA h0 [7,9]
  ·exact GOES.kA h0 [7,9]
  ·exact GOES.kA h0 [8,9]
  ·exact GOES.kA h0 [7,9]
  ·exact GOES.kA h0 [8,9]
  ·exact GOES.kA h0 [8,9]
 ·have hie:i=ps.length:=by omega
  subst hie;rw[List.take_length]at hl1 hl2⊢;have hS1:=Um (ps.map Prod.fst) (by omega);have hS2:=Um (ps.map Prod.snd) (by omega);have hE1:=Z2I ((ps.map Prod.fst).mergeSort (leC cmpL)) x [] zx none lX (by simp;omega) hx;have hE2:=Z2I ((ps.map Prod.snd).mergeSort (leC cmpL)) y [] zy none lY (by simp;omega) hy;rw[List.append_nil,List.length_mergeSort]at hE1 hE2;repeat'((first|refine AU ?_|(refine IW ?_ ?_<;>intro h<;>try(exfalso;omega)))<;>conv=>whnf)
  refine CALL.aA [3] (hS1) ?_;rintro r O nx ⟨rfl,rfl,rfl⟩;conv=>whnf
  repeat'((first|refine AU ?_|(refine IW ?_ ?_<;>intro h<;>try(exfalso;omega)))<;>conv=>whnf)
  refine CALL.aA [4] (hS2) ?_;rintro r O nx ⟨rfl,rfl,rfl⟩;conv=>whnf
  repeat'((first|refine AU ?_|(refine IW ?_ ?_<;>intro h<;>try(exfalso;omega)))<;>conv=>whnf)
  refine CALL.aA [3,0] (hE1) ?_;rintro r O nx ⟨rfl,rfl,rfl⟩;conv=>whnf
  repeat'((first|refine AU ?_|(refine IW ?_ ?_<;>intro h<;>try(exfalso;omega)))<;>conv=>whnf)
  ·refine CALL.aA [4,1] (hE2) ?_;rintro r O nx ⟨rfl,rfl,rfl⟩;conv=>whnf
   repeat'((first|refine AU ?_|(refine IW ?_ ?_<;>intro h<;>try(exfalso;omega)))<;>conv=>whnf)
   refine FIN.valueK h0 rfl (congrArg SV.bool ?_);unfold bijM;simp[h,e1,e2]
  ·refine FIN.valueK h0 rfl (congrArg SV.bool ?_);unfold bijM;simp[h]
def checkM(a b:List Qd)(ps:List Pr):Int:=if Xr a b≠0 then Xr a b else if bijM (Z0 a) (Z0 b) ps=true/\setL ZE (a.map (Xb ps))=b then 0 else 140
theorem Z8D(l:List Qd):(Z0 l).length<=l.length*4:=Nat.le_trans (Vv _) (XV _ Yz _)
theorem XC(a za b zb:List Qd)(ps zp:List Pr)(limA limB limP:Option Nat)(ha:X8 a)(hb:X8 b)(qa:Z0V a)(qb:Z0V b)(hza:(a++za).length<=1152921504606846976)(hzb:(b++zb).length<=1152921504606846976)(hp:(ps++zp).length<=1152921504606846976):Does prog tab 21 3 [.sl (.loc 0) 0 16 a.length limA, .sl (.loc 1) 0 16 b.length limB, .sl (.loc 2) 0 2 ps.length limP] [] [(0, .rows 16 ((a++za).map Zk)),(1, .rows 16 ((b++zb).map Zk)),(2, .rows 2 ((ps++zp).map XD))] (ValK 3 (.int .i64 (checkM a b ps))):=by
 have hv:=WG a za b zb limA limB (by unfold X8 at ha;omega) (by unfold X8 at hb;omega) qa qb;have hA:=Xh a za limA ha hza;have hB:=Xh b zb limB hb hzb;have hR:=W7 a za limA ps zp limP ha hza hp;have hAl:=Z8D a;have hBl:=Z8D b;have hAb:(Y9 a).length<=a.length*4:=XV _ Yz _;have hBb:(Y9 b).length<=b.length*4:=XV _ Yz _;refine Does.enter Z1 call21 func21 rfl 29 rfl rfl [.tmp 6] rfl ?_;intro w0 F η0 h0;conv=>whnf
 repeat'((first|refine AU ?_|(refine IW ?_ ?_<;>intro h<;>try(exfalso;omega)))<;>conv=>whnf)
 refine CALL.aA [0,1] (hv) ?_;rintro r O nx ⟨rfl,rfl,rfl⟩;conv=>whnf
 repeat'((first|refine AU ?_|(refine IW ?_ ?_<;>intro h<;>try(exfalso;omega)))<;>conv=>whnf)
 ·refine FIN.valueK h0 rfl (congrArg (SV.int _) ?_);unfold checkM;rw[if_pos (by simpa using h)]
 have hv0:=h;refine CALL.aA [0] (hA) ?_;rintro r O nx ⟨j,hj,rfl,rfl,rfl⟩;conv=>whnf
 repeat'((first|refine AU ?_|(refine IW ?_ ?_<;>intro h<;>try(exfalso;omega)))<;>conv=>whnf)
 refine CALL.aA [1] (hB) ?_;rintro r O nx ⟨j2,hj2,rfl,rfl,rfl⟩;conv=>whnf
 have hbi:=ZdL (Z0 a) (Z0 b) (List.replicate j []) (List.replicate j2 []) ps zp (some (Z0 a).length) (some (Z0 b).length) limP (by unfold X8 at ha;simp;omega) (by unfold X8 at hb;simp;omega) hp (by unfold X8 at ha;omega);repeat'((first|refine AU ?_|(refine IW ?_ ?_<;>intro h<;>try(exfalso;omega)))<;>conv=>whnf)
 refine CALL.aA [3,4,2] (hbi) ?_;rintro r O nx ⟨rfl,rfl,rfl⟩;conv=>whnf
 repeat'((first|refine AU ?_|(refine IW ?_ ?_<;>intro h<;>try(exfalso;omega)))<;>conv=>whnf)
 ·refine FIN.valueK h0 rfl (congrArg (SV.int _) ?_);unfold checkM;rw[if_neg (by simpa using hv0),if_neg (by simp[h])]
 have hbj:=h;refine CALL.aA [0,2] (hR) ?_;rintro r O nx ⟨j3,hj3,rfl,rfl,rfl⟩;conv=>whnf
 have hsl:=Vv (c:=ZE) (a.map (Xb ps));have hE:=Z2H (setL ZE (a.map (Xb ps))) b (List.replicate j3 Yf) zb (some (setL ZE (a.map (Xb ps))).length) limB (by rw[List.length_append,List.length_replicate];omega) hzb;repeat'((first|refine AU ?_|(refine IW ?_ ?_<;>intro h<;>try(exfalso;omega)))<;>conv=>whnf)
 refine CALL.aA [5,1] (hE) ?_;rintro r O nx ⟨rfl,rfl,rfl⟩;conv=>whnf
 repeat'((first|refine AU ?_|(refine IW ?_ ?_<;>intro h<;>try(exfalso;omega)))<;>conv=>whnf)
 ·refine FIN.valueK h0 rfl (congrArg (SV.int _) ?_);unfold checkM;rw[if_neg (by simpa using hv0),if_neg (by simp_all)]
 ·refine FIN.valueK h0 rfl (congrArg (SV.int _) ?_);unfold checkM;rw[if_neg (by simpa using hv0),if_pos (by simp_all)]
end Go.Proofs.YtbfbokdccdagkaaGreatDoor
namespace Go.Proofs.YtbfbokdccdagkaaGreatDoor
open Go.Sx Go.Our
open Tryz
def ZfE:Plan:=(ZT [(0,1),(1,1),(2,1),(3,1),(5,1),(6,1),(7,1),(4,2),(8,2),(9,1),(10,3),(11,0),(12,1)])
def ZfF:Plan:=(ZT [(0,1),(1,1),(2,1),(3,1),(4,1),(6,1),(7,1),(8,1),(9,1),(5,2),(10,2),(11,1),(12,3),(13,0),(14,1)])
theorem ZeB{n:Nat}(h:n<=4194304):IntKind.u64.wrap ((0+n:Nat):Int)=n:=by rw[show((0+n:Nat):Int)=(n:Int)by omega];exact IntWalk.u64_in _ ⟨by omega,by omega⟩
theorem ZfG{n:Nat}(h0:0<n)(h:n<=4194304):IntKind.u64.wrap ((0+n:Nat):Int)≠0:=by rw[ZeB h];omega
theorem ZfH{p:Int}{n:Nat}(h0:0<n)(h:n<=4194304):∃k:Nat,k<n/\IntKind.i64.wrap ((IntKind.u64.wrap p).tmod (IntKind.u64.wrap ((0+n:Nat):Int)))=(k:Int):=by
 rw[ZeB h];have hp:0<=IntKind.u64.wrap p:=by rw[IntKind.wrap_u64];omega
 have h1:=Int.emod_nonneg (IntKind.u64.wrap p) (b:=(n:Int)) (by omega);have h2:=Int.emod_lt_of_pos (IntKind.u64.wrap p) (b:=(n:Int)) (by omega);rw[Int.tmod_eq_emod_of_nonneg hp];refine⟨(IntKind.u64.wrap p% (n:Int)).toNat,by omega,?_⟩;rw[Z5 (by omega) (by omega)];omega
theorem Zca(A z:List LB)(picks:List Int)(limA limP:Option Nat)(hA:A.length<=4194304)(hz:(A++z).length<=1152921504606846976)(hp:picks.length<=1152921504606846976):Does prog tab 29 2 [.sl (.loc 0) 0 1 A.length limA, .sl (.loc 1) 0 1 picks.length limP] [] [(0, .rows 1 ((A++z).map Z3)),(1, .rows 1 (picks.map Zg))]
 (fun r O nx=> ∃T:List LB,T.Perm A/\r= .sl (.loc 2) 0 2 A.length none/\O=[(2, .rows 2 ((A.zip T).map XD))]/\nx=3):=by
 refine Does.enter Z1 call29 func29 rfl 70 rfl rfl [.tmp 4] rfl ?_;intro w0 F η0 h0;conv=>whnf
 repeat'((first|(rw[Z5Q];conv=>whnf)|(refine NEED.mk ⟨by simp,by simp,by omega,by show _*16<=_;omega⟩ ?_;conv=>whnf)|refine AU ?_|(refine IW ?_ ?_<;>intro h<;>try(exfalso;omega)))<;>conv=>whnf)
 refine LOOP.gok Z1 [0,1,5] [] (X:=Nat×List LB) (fun x=>x.1<=A.length/\x.2.Perm A) (fun x=>[(6, .int .i64 (x.1:Int))]) (fun x=>[(3, .rows 1 (x.2.map Z3))]) 4 (fun x=>A.length-x.1) (0,A) ⟨by simp,List.Perm.refl _⟩ ?_;conv=>whnf
 refine⟨by exact GOES.kA h0 [2,3],?_⟩;rintro⟨i,T⟩ ⟨hi,hT⟩;dsimp only at hi hT⊢;have hTl:=hT.length_eq;conv=>whnf
 have gP:∀{k:Nat},k=i->(hk:i<picks.length)->(picks.map Zg)[k]?=some (Zg picks[i]):=fun e hk=>by subst e;rw[List.getElem?_map,List.getElem?_eq_getElem hk];rfl
 have gT:∀{k j:Nat},k=j->(hk:j<T.length)->(T.map Z3)[k]?=some (Z3 T[j]):=fun e hk=>by subst e;rw[List.getElem?_map,List.getElem?_eq_getElem hk];rfl
 repeat'((first|(refine GET.at (gP (by omega) (by omega)) ?_;conv=>whnf)|refine AU ?_|(refine IW ?_ ?_<;>intro h<;>try(exfalso;omega)))<;>conv=>whnf)
 ·obtain⟨k,hk,hm⟩:=ZfH (p:=picks[i]'(by omega)) (n:=A.length) (by omega) (by omega);refine NEED.mk (ZfG (by omega) (by omega)) ?_;conv=>whnf
  rw[hm];have hkT:k<T.length:=by omega
  have hiT:i<T.length:=by omega
  have gS:((T.map Z3).set (0+((i:Nat):Int).toNat) [SV.str T[k]])[0+((k:Nat):Int).toNat]?=some (Z3 ((T.set i T[k])[k]'(by rw[List.length_set];omega))):=by
   rw[show 0+((i:Nat):Int).toNat=i by omega,show 0+((k:Nat):Int).toNat=k by omega,show [SV.str T[k]]=Z3 T[k]from rfl,<-List.map_set,List.getElem?_map,List.getElem?_eq_getElem (by rw[List.length_set];omega)];rfl
  repeat'((first|(refine GET.at (gT (j:=i) (by omega) (by omega)) ?_;conv=>whnf)|(refine GET.at (gT (j:=k) (by omega) (by omega)) ?_;conv=>whnf)|(refine GET.at gS ?_;conv=>whnf)|refine AU ?_|(refine IW ?_ ?_<;>intro h<;>try(exfalso;omega)))<;>conv=>whnf)
  have hset:(((T.map Z3).set (0+((i:Nat):Int).toNat) [SV.str T[k]]).set (0+((k:Nat):Int).toNat) [SV.str T[i]])=((T.set i T[k]).set k T[i]).map Z3:=by
   rw[show 0+((i:Nat):Int).toNat=i by omega,show 0+((k:Nat):Int).toNat=k by omega,List.map_set,List.map_set];rfl
  rw[hset];refine⟨(i+1,(T.set i T[k]).set k T[i]),⟨by dsimp only;omega,(List.set_set_perm hiT hkT).trans hT⟩,by dsimp only;omega,?_⟩;dsimp only;conv=>whnf
  exact GOES.kA h0 [2,3]
 all_goals
  refine LOOP.nil 9 2 rfl ?_;refine LOOP.gok Z1 [0,5] [] (X:=Nat) (fun i=>i<=A.length) (fun i=>[(10, .int .i64 (i:Int)),(9, .sl (.loc 4) 0 2 i none)]) (fun i=>[(3, .rows 1 (T.map Z3)),(4, .rows 2 (((A.zip T).take i).map XD))]) 5 (fun i=>A.length-i) 0 (by omega) ?_;conv=>whnf
  refine⟨by exact GOES.kA h0 [2,3,4],?_⟩;clear gP gT;intro i hi;conv=>whnf
  by_cases hil:i<A.length
  ·have gA:∀{k:Nat},k=i->((A++z).map Z3)[k]?=some (Z3 A[i]):=fun e=>by subst e;rw[List.getElem?_map,List.getElem?_append_left hil,List.getElem?_eq_getElem hil];rfl
   have gT:∀{k:Nat},k=i->(T.map Z3)[k]?=some (Z3 (T[i]'(by omega))):=fun e=>by subst e;rw[List.getElem?_map,List.getElem?_eq_getElem (by omega)];rfl
   have hs:(A.zip T).take (i+1)=(A.zip T).take i++ [(A[i],T[i]'(by omega))]:=by
    rw[List.take_succ_eq_append_getElem (by rw[List.length_zip];omega),List.getElem_zip]
   have hlz:((A.zip T).take i).length=i:=by rw[List.length_take,List.length_zip];omega
   generalize(A.zip T).take i=R at hs hlz⊢;repeat'((first|(show DRAWN _ _ _ _ _ _ _;first|refine DRAWN.of (id:=13) Z1 mixed ZfE (by kernel_rfl) ?_)|refine ADD.mk (fun _ _=>?_)|refine AD ?_|refine FORK.mk ?_ ?_|(refine GET.at (gA (by omega)) ?_;conv=>whnf)|(refine GET.at (gT (by omega)) ?_;conv=>whnf)|(refine NEED.mk (Yg 32 rfl rfl (by simp) (by simp;omega) (by omega)) ?_;conv=>whnf)|refine AU ?_|(refine IW ?_ ?_<;>intro h<;>try(exfalso;omega)))<;>conv=>whnf)
   all_goals
    subst hlz;refine⟨R.length+1,by omega,by omega,?_⟩;rw[hs];conv=>whnf
    exact GOES.kA h0 [2,3,6]
  ·have hie:i=A.length:=by omega
   subst hie;repeat'((first|refine AU ?_|(refine IW ?_ ?_<;>intro h<;>try(exfalso;omega)))<;>conv=>whnf)
   refine FIN.aA h0 [4] (.sl (.loc 2) 0 2 A.length none) [(2, .rows 2 ((A.zip T).map XD))] ⟨T,hT,rfl,rfl,rfl⟩ (hO:=⟨YI Pl.h (by rw[List.take_of_length_le (by rw[List.length_zip];omega)]),trivial⟩)
theorem Z6B(ps zp:List Pr)(lim:Option Nat)(hz:(ps++zp).length<=1152921504606846976)(hp:ps.length<=4194304):Does prog tab 32 1 [.sl (.loc 0) 0 2 ps.length lim] [] [(0, .rows 2 ((ps++zp).map XD))]
 (fun r O nx=>r= .sl (.loc 1) 0 2 ps.length none/\O=[(1, .rows 2 ((ps.map fun p=>(p.2,p.1)).map XD))]/\nx=2):=by
 refine Does.enter Z1 call32 func32 rfl 26 rfl rfl [.tmp 2] rfl ?_;intro w0 F η0 h0;conv=>whnf
 repeat'((first|refine AU ?_|(refine IW ?_ ?_<;>intro h<;>try(exfalso;omega)))<;>conv=>whnf)
 refine LOOP.nil 3 2 rfl ?_;refine LOOP.gok Z1 [0] [] (X:=Nat) (fun i=>i<=ps.length) (fun i=>[(4, .int .i64 (i:Int)),(3, .sl (.loc 1) 0 2 i none)]) (fun i=>[(1, .rows 2 (((ps.map fun p=>(p.2,p.1)).take i).map XD))]) 2 (fun i=>ps.length-i) 0 (by omega) ?_;conv=>whnf
 refine⟨by exact GOES.kA h0 [1],?_⟩;intro i hi;conv=>whnf
 by_cases hil:i<ps.length
 ·have gA:∀{k:Nat},k=i->((ps++zp).map XD)[k]?=some (XD ps[i]):=fun e=>by subst e;rw[List.getElem?_map,List.getElem?_append_left hil,List.getElem?_eq_getElem hil];rfl
  have hs:(ps.map fun p=>(p.2,p.1)).take (i+1)=(ps.map fun p=>(p.2,p.1)).take i++ [(ps[i].2,ps[i].1)]:=by
   rw[List.take_succ_eq_append_getElem (by rw[List.length_map];omega),List.getElem_map]
  have hlz:((ps.map fun p=>(p.2,p.1)).take i).length=i:=by rw[List.length_take,List.length_map];omega
  generalize(ps.map fun p=>(p.2,p.1)).take i=R at hs hlz⊢;repeat'((first|(show DRAWN _ _ _ _ _ _ _;first|refine DRAWN.of (id:=5) Z1 mixed ZfF (by kernel_rfl) ?_)|refine ADD.mk (fun _ _=>?_)|refine AD ?_|refine FORK.mk ?_ ?_|(refine GET.at (gA (by omega)) ?_;conv=>whnf)|(refine NEED.mk (Yg 32 rfl rfl (by simp) (by simp;omega) (by omega)) ?_;conv=>whnf)|refine AU ?_|(refine IW ?_ ?_<;>intro h<;>try(exfalso;omega)))<;>conv=>whnf)
  all_goals
   subst hlz;refine⟨R.length+1,by omega,by omega,?_⟩;rw[hs];conv=>whnf
   exact GOES.kA h0 [3]
 ·have hie:i=ps.length:=by omega
  subst hie;repeat'((first|refine AU ?_|(refine IW ?_ ?_<;>intro h<;>try(exfalso;omega)))<;>conv=>whnf)
  refine FIN.aA h0 [1] (.sl (.loc 1) 0 2 ps.length none) [(1, .rows 2 ((ps.map fun p=>(p.2,p.1)).map XD))] ⟨rfl,rfl,rfl⟩ (hO:=⟨YI Pl.h (by rw[List.take_of_length_le (by rw[List.length_map];omega)]),trivial⟩)
end Go.Proofs.YtbfbokdccdagkaaGreatDoor
