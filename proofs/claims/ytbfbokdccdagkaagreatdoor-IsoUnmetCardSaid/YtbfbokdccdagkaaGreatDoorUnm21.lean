/- Part 21: Bij1, Shuf. Conditions: as each part says. -/
import Derived.Test.YtbfbokdccdagkaaGreatDoorUnm17
import Derived.Test.YtbfbokdccdagkaaGreatDoorUnm20
set_option linter.unusedVariables false
set_option linter.unusedSimpArgs false
set_option maxRecDepth 20000
set_option maxHeartbeats 8000000
namespace Go.Proofs.YtbfbokdccdagkaaGreatDoor
open Go.Sx Go.Our
open Tryz
def Zcb:Plan:=(ZU [(0,1),(1,1),(2,1),(4,1),(5,1),(6,1),(3,2),(7,2),(8,1)])
def Zfu:Plan:=(.take 0 1 (.take 1 1 (.take 5 1 (.take 6 1 (.take 2 2 (.fork 3 3 7 3 (.fork 4 0 7 3 (ZU [(7,2),(8,3),(9,0),(10,1),(11,1)]) (.fork 4 0 8 3 (ZU [(8,3),(9,0),(10,1),(11,1)]) (ZU [(4,0),(9,0),(10,1),(11,1)]))) (.fork 3 3 8 3 (.fork 4 0 8 3 (ZU [(8,3),(9,0),(10,1),(11,1)]) (ZU [(4,0),(9,0),(10,1),(11,1)])) (ZU [(3,3),(4,0),(9,0),(10,1),(11,1)]))))))))
theorem Z6s{α:Type}{l m:List α}{i:Nat}(hl:i<l.length)(hm:i<m.length)(h:l.take i=m.take i):l[i]=m[i]<->l.take (i+1)=m.take (i+1):=by
 rw[List.take_succ_eq_append_getElem hl,List.take_succ_eq_append_getElem hm,h];exact⟨fun e=>by rw[e],fun e=>(List.singleton_inj.1 (List.append_cancel_left e))⟩
theorem ZgR{x y:Qd}(h:x.s.k=y.s.k/\x.s.t=y.s.t/\x.s.y=y.s.y/\x.s.l=y.s.l/\x.p.k=y.p.k/\x.p.t=y.p.t/\x.p.y=y.p.y/\x.p.l=y.p.l/\x.o.k=y.o.k/\x.o.t=y.o.t/\x.o.y=y.o.y/\x.o.l=y.o.l/\x.g.k=y.g.k/\x.g.t=y.g.t/\x.g.y=y.g.y/\x.g.l=y.g.l):x=y:=by
 obtain⟨⟨_,_,_,_⟩,⟨_,_,_,_⟩,⟨_,_,_,_⟩,⟨_,_,_,_⟩⟩:=x;obtain⟨⟨_,_,_,_⟩,⟨_,_,_,_⟩,⟨_,_,_,_⟩,⟨_,_,_,_⟩⟩:=y;obtain⟨rfl,rfl,rfl,rfl,rfl,rfl,rfl,rfl,rfl,rfl,rfl,rfl,rfl,rfl,rfl,rfl⟩:=h
 rfl
theorem Z2L(l m zl zm:List Qd)(lA lB:Option Nat)(hl:(l++zl).length<=1152921504606846976)(hm:(m++zm).length<=1152921504606846976):Does prog tab 48 2 [.sl (.loc 0) 0 16 l.length lA, .sl (.loc 1) 0 16 m.length lB] [] [(0, .rows 16 ((l++zl).map Zl)),(1, .rows 16 ((m++zm).map Zl))] (ValK 2 (.bool (decide (l=m)))):=by
 have hl1:(l++zl).length=l.length+zl.length:=List.length_append;have hm1:(m++zm).length=m.length+zm.length:=List.length_append;have get:∀{l z:List Qd} {i k:Nat} (h:i<l.length) (e:k=i),((l++z).map Zl)[k]?=some (Zl l[i]):=fun h e=>by subst e;rw[List.getElem?_map,List.getElem?_append_left h,List.getElem?_eq_getElem h];rfl
 refine Does.enter Z1 call48 func48 rfl 26 rfl rfl [.tmp 4] rfl ?_;intro w0 F η0 h0;conv=>whnf
 repeat'((first|refine AU ?_|(refine IW ?_ ?_<;>intro h<;>try(exfalso;omega)))<;>conv=>whnf)
 ·exact FIN.valueK h0 rfl (congrArg SV.bool (decide_eq_false fun e=>by subst e;omega).symm)
 have hlm:l.length=m.length:=by omega
 refine LOOP.gok Z1 [0,1,12] [] (X:=Nat) (fun i=>i<=l.length/\l.take i=m.take i) (fun i=>[(13, .int .i64 (i:Int))]) (fun i=>[]) 2 (fun i=>l.length-i) 0 ⟨by omega,rfl⟩ ?_;conv=>whnf
 refine⟨by exact GOES.kA h0 [],?_⟩;rintro i ⟨hi,ht⟩;conv=>whnf
 by_cases hil:i<l.length
 ·have hs:=Z6s hil (hlm▸hil) ht;repeat'((first|refine DRAWN.of (id:=6) Z1 mixed Zcb (by kernel_rfl) ?_|refine ADD.mk (fun _ _=>?_)|refine AD ?_|refine FORK.mk ?_ ?_|(refine GET.at (get hil (by omega)) ?_;conv=>whnf)|(refine GET.at (get (hlm▸hil) (by omega)) ?_;conv=>whnf)|refine AU ?_|(refine IW ?_ ?_<;>intro h<;>try(exfalso;omega)))<;>conv=>whnf)
  ·exact FIN.valueK h0 rfl (congrArg SV.bool (decide_eq_false fun e=>by subst e;simp at h).symm)
  refine⟨i+1,⟨by omega,hs.1 (ZgR h)⟩,by omega,?_⟩;conv=>whnf
  exact GOES.kA h0 []
 ·repeat'((first|refine AU ?_|(refine IW ?_ ?_<;>intro h<;>try(exfalso;omega)))<;>conv=>whnf)
  rw[show i=l.length by omega,List.take_length,hlm,List.take_length]at ht;exact FIN.valueK h0 rfl (congrArg SV.bool (decide_eq_true ht).symm)
theorem Z2M(l m zl zm:List LB)(lA lB:Option Nat)(hl:(l++zl).length<=1152921504606846976)(hm:(m++zm).length<=1152921504606846976):Does prog tab 75 2 [.sl (.loc 0) 0 1 l.length lA, .sl (.loc 1) 0 1 m.length lB] [] [(0, .rows 1 ((l++zl).map Z3)),(1, .rows 1 ((m++zm).map Z3))] (ValK 2 (.bool (decide (l=m)))):=by
 have hl1:(l++zl).length=l.length+zl.length:=List.length_append;have hm1:(m++zm).length=m.length+zm.length:=List.length_append;have get:∀{l z:List LB} {i k:Nat} (h:i<l.length) (e:k=i),((l++z).map Z3)[k]?=some (Z3 l[i]):=fun h e=>by subst e;rw[List.getElem?_map,List.getElem?_append_left h,List.getElem?_eq_getElem h];rfl
 refine Does.enter Z1 call75 func75 rfl 26 rfl rfl [.tmp 4] rfl ?_;intro w0 F η0 h0;conv=>whnf
 repeat'((first|refine AU ?_|(refine IW ?_ ?_<;>intro h<;>try(exfalso;omega)))<;>conv=>whnf)
 ·exact FIN.valueK h0 rfl (congrArg SV.bool (decide_eq_false fun e=>by subst e;omega).symm)
 have hlm:l.length=m.length:=by omega
 refine LOOP.gok Z1 [0,1,12] [] (X:=Nat) (fun i=>i<=l.length/\l.take i=m.take i) (fun i=>[(13, .int .i64 (i:Int))]) (fun i=>[]) 2 (fun i=>l.length-i) 0 ⟨by omega,rfl⟩ ?_;conv=>whnf
 refine⟨by exact GOES.kA h0 [],?_⟩;rintro i ⟨hi,ht⟩;conv=>whnf
 by_cases hil:i<l.length
 ·have hs:=Z6s hil (hlm▸hil) ht;repeat'((first|refine DRAWN.of (id:=6) Z1 mixed Zcb (by kernel_rfl) ?_|refine ADD.mk (fun _ _=>?_)|refine AD ?_|refine FORK.mk ?_ ?_|(refine GET.at (get hil (by omega)) ?_;conv=>whnf)|(refine GET.at (get (hlm▸hil) (by omega)) ?_;conv=>whnf)|refine AU ?_|(refine IW ?_ ?_<;>intro h<;>try(exfalso;omega)))<;>conv=>whnf)
  ·exact FIN.valueK h0 rfl (congrArg SV.bool (decide_eq_false fun e=>by subst e;simp at h).symm)
  refine⟨i+1,⟨by omega,hs.1 (id h)⟩,by omega,?_⟩;conv=>whnf
  exact GOES.kA h0 []
 ·repeat'((first|refine AU ?_|(refine IW ?_ ?_<;>intro h<;>try(exfalso;omega)))<;>conv=>whnf)
  rw[show i=l.length by omega,List.take_length,hlm,List.take_length]at ht;exact FIN.valueK h0 rfl (congrArg SV.bool (decide_eq_true ht).symm)
theorem Zcc{ps:List Pr}{i:Nat}(h:i<ps.length):(ps.take (i+1)).map Prod.fst=(ps.take i).map Prod.fst++ [ps[i].1]/\(ps.take (i+1)).map Prod.snd=(ps.take i).map Prod.snd++ [ps[i].2]:=by
 rw[List.take_succ_eq_append_getElem h,List.map_append,List.map_append];exact⟨rfl,rfl⟩
theorem ZdO(x y zx zy:List LB)(ps zp:List Pr)(lX lY lP:Option Nat)(hx:(x++zx).length<=1152921504606846976)(hy:(y++zy).length<=1152921504606846976)(hp:(ps++zp).length<=1152921504606846976)(hs:x.length*16<=140737488351232):Does prog tab 47 3 [.sl (.loc 0) 0 1 x.length lX, .sl (.loc 1) 0 1 y.length lY, .sl (.loc 2) 0 2 ps.length lP] [] [(0, .rows 1 ((x++zx).map Z3)),(1, .rows 1 ((y++zy).map Z3)),(2, .rows 2 ((ps++zp).map XC))] (ValK 3 (.bool (bijM x y ps))):=by
 have hp1:(ps++zp).length=ps.length+zp.length:=List.length_append;refine Does.enter Z1 call47 func47 rfl 52 rfl rfl [.tmp 6] rfl ?_;intro w0 F η0 h0;conv=>whnf
 repeat'((first|refine AU ?_|(refine IW ?_ ?_<;>intro h<;>try(exfalso;omega)))<;>conv=>whnf)
 ·exact FIN.valueK h0 rfl (congrArg SV.bool (h.elim (fun h=>Zdn (by omega)) fun h=>Zdo (by omega)).symm)
 have e1:ps.length=x.length:=by omega
 have e2:x.length=y.length:=by omega
 refine LOOP.nil 7 1 rfl ?_;refine LOOP.nil 8 1 rfl ?_;refine LOOP.gok Z1 [0,1,23,24] [] (X:=Nat) (fun i=>i<=ps.length) (fun i=>[(25, .int .i64 (i:Int)),(7, .sl (.loc 3) 0 1 ((ps.take i).map Prod.fst).length none),(8, .sl (.loc 4) 0 1 ((ps.take i).map Prod.snd).length none)]) (fun i=>[(3, .rows 1 (((ps.take i).map Prod.fst).map Z3)),(4, .rows 1 (((ps.take i).map Prod.snd).map Z3))]) 5 (fun i=>ps.length-i) 0 (by omega) ?_;conv=>whnf
 refine⟨by exact GOES.kA h0 [3,4],?_⟩;intro i hi;have hl1:((ps.take i).map Prod.fst).length=i:=by simp;omega
 have hl2:((ps.take i).map Prod.snd).length=i:=by simp;omega
 conv=>whnf
 by_cases hil:i<ps.length
 ·have hs:=Zcc hil;generalize(ps.take i).map Prod.fst=A at*;generalize(ps.take i).map Prod.snd=B at*;repeat'((first|refine DRAWN.of (id:=7) Z1 mixed Zfu (by kernel_rfl) ?_|refine ADD.mk (fun _ _=>?_)|refine AD ?_|refine FORK.mk ?_ ?_|(refine GET.at (row:=XC (ps[i]'(by omega))) (Z3L (by omega) (by omega)) ?_;conv=>whnf)|(refine NEED.mk (Yc 16 rfl rfl (by simp) (by simp) (by omega)) ?_;conv=>whnf)|refine AU ?_|(refine IW ?_ ?_<;>intro h<;>try(exfalso;omega)))<;>conv=>whnf)
  all_goals
   refine⟨i+1,by omega,by omega,?_⟩;rw[hs.1,hs.2];conv=>whnf
  ·exact GOES.kA h0 [7,9]
  ·exact GOES.kA h0 [7,9]
  ·exact GOES.kA h0 [8,9]
  ·exact GOES.kA h0 [7,9]
  ·exact GOES.kA h0 [8,9]
  ·exact GOES.kA h0 [8,9]
 ·have hie:i=ps.length:=by omega
  subst hie;rw[List.take_length]at hl1 hl2⊢;have hS1:=Un (ps.map Prod.fst) (by omega);have hS2:=Un (ps.map Prod.snd) (by omega);have hE1:=Z2M ((ps.map Prod.fst).mergeSort (leC cmpL)) x [] zx none lX (by simp;omega) hx;have hE2:=Z2M ((ps.map Prod.snd).mergeSort (leC cmpL)) y [] zy none lY (by simp;omega) hy;rw[List.append_nil,List.length_mergeSort]at hE1 hE2;repeat'((first|refine AU ?_|(refine IW ?_ ?_<;>intro h<;>try(exfalso;omega)))<;>conv=>whnf)
  refine CALL.aA [3] (hS1) ?_;rintro r O nx ⟨rfl,rfl,rfl⟩;conv=>whnf
  repeat'((first|refine AU ?_|(refine IW ?_ ?_<;>intro h<;>try(exfalso;omega)))<;>conv=>whnf)
  refine CALL.aA [4] (hS2) ?_;rintro r O nx ⟨rfl,rfl,rfl⟩;conv=>whnf
  repeat'((first|refine AU ?_|(refine IW ?_ ?_<;>intro h<;>try(exfalso;omega)))<;>conv=>whnf)
  refine CALL.aA [3,0] (hE1) ?_;rintro r O nx ⟨rfl,rfl,rfl⟩;conv=>whnf
  repeat'((first|refine AU ?_|(refine IW ?_ ?_<;>intro h<;>try(exfalso;omega)))<;>conv=>whnf)
  ·refine CALL.aA [4,1] (hE2) ?_;rintro r O nx ⟨rfl,rfl,rfl⟩;conv=>whnf
   repeat'((first|refine AU ?_|(refine IW ?_ ?_<;>intro h<;>try(exfalso;omega)))<;>conv=>whnf)
   refine FIN.valueK h0 rfl (congrArg SV.bool ?_);unfold bijM;simp[h,e1,e2]
  ·refine FIN.valueK h0 rfl (congrArg SV.bool ?_);unfold bijM;simp[h]
def checkM(a b:List Qd)(ps:List Pr):Int:=if X6 a b≠0 then X6 a b else if bijM (Z0 a) (Z0 b) ps=true/\setL ZH (a.map (XB ps))=b then 0 else 140
theorem Z8w(l:List Qd):(Z0 l).length<=l.length*4:=Nat.le_trans (JA _) (Xz _ Ys _)
theorem Z53(a za b zb:List Qd)(ps zp:List Pr)(limA limB limP:Option Nat)(ha:Xf a)(hb:Xf b)(qa:W2 a)(qb:W2 b)(hza:(a++za).length<=1152921504606846976)(hzb:(b++zb).length<=1152921504606846976)(hp:(ps++zp).length<=1152921504606846976):Does prog tab 21 3 [.sl (.loc 0) 0 16 a.length limA, .sl (.loc 1) 0 16 b.length limB, .sl (.loc 2) 0 2 ps.length limP] [] [(0, .rows 16 ((a++za).map Zl)),(1, .rows 16 ((b++zb).map Zl)),(2, .rows 2 ((ps++zp).map XC))] (ValK 3 (.int .i64 (checkM a b ps))):=by
 have hv:=VA a za b zb limA limB (by unfold Xf at ha;omega) (by unfold Xf at hb;omega) qa qb;have hA:=Yd a za limA ha hza;have hB:=Yd b zb limB hb hzb;have hR:=Z2K a za limA ps zp limP ha hza hp;have hAl:=Z8w a;have hBl:=Z8w b;have hAb:(ZD a).length<=a.length*4:=Xz _ Ys _;have hBb:(ZD b).length<=b.length*4:=Xz _ Ys _;refine Does.enter Z1 call21 func21 rfl 29 rfl rfl [.tmp 6] rfl ?_;intro w0 F η0 h0;conv=>whnf
 repeat'((first|refine AU ?_|(refine IW ?_ ?_<;>intro h<;>try(exfalso;omega)))<;>conv=>whnf)
 refine CALL.aA [0,1] (hv) ?_;rintro r O nx ⟨rfl,rfl,rfl⟩;conv=>whnf
 repeat'((first|refine AU ?_|(refine IW ?_ ?_<;>intro h<;>try(exfalso;omega)))<;>conv=>whnf)
 ·refine FIN.valueK h0 rfl (congrArg (SV.int _) ?_);unfold checkM;rw[if_pos (by simpa using h)]
 have hv0:=h;refine CALL.aA [0] (hA) ?_;rintro r O nx ⟨j,hj,rfl,rfl,rfl⟩;conv=>whnf
 repeat'((first|refine AU ?_|(refine IW ?_ ?_<;>intro h<;>try(exfalso;omega)))<;>conv=>whnf)
 refine CALL.aA [1] (hB) ?_;rintro r O nx ⟨j2,hj2,rfl,rfl,rfl⟩;conv=>whnf
 have hbi:=ZdO (Z0 a) (Z0 b) (List.replicate j []) (List.replicate j2 []) ps zp (some (Z0 a).length) (some (Z0 b).length) limP (by unfold Xf at ha;simp;omega) (by unfold Xf at hb;simp;omega) hp (by unfold Xf at ha;omega);repeat'((first|refine AU ?_|(refine IW ?_ ?_<;>intro h<;>try(exfalso;omega)))<;>conv=>whnf)
 refine CALL.aA [3,4,2] (hbi) ?_;rintro r O nx ⟨rfl,rfl,rfl⟩;conv=>whnf
 repeat'((first|refine AU ?_|(refine IW ?_ ?_<;>intro h<;>try(exfalso;omega)))<;>conv=>whnf)
 ·refine FIN.valueK h0 rfl (congrArg (SV.int _) ?_);unfold checkM;rw[if_neg (by simpa using hv0),if_neg (by simp[h])]
 have hbj:=h;refine CALL.aA [0,2] (hR) ?_;rintro r O nx ⟨j3,hj3,rfl,rfl,rfl⟩;conv=>whnf
 have hsl:=JA (c:=ZH) (a.map (XB ps));have hE:=Z2L (setL ZH (a.map (XB ps))) b (List.replicate j3 Yv) zb (some (setL ZH (a.map (XB ps))).length) limB (by rw[List.length_append,List.length_replicate];omega) hzb;repeat'((first|refine AU ?_|(refine IW ?_ ?_<;>intro h<;>try(exfalso;omega)))<;>conv=>whnf)
 refine CALL.aA [5,1] (hE) ?_;rintro r O nx ⟨rfl,rfl,rfl⟩;conv=>whnf
 repeat'((first|refine AU ?_|(refine IW ?_ ?_<;>intro h<;>try(exfalso;omega)))<;>conv=>whnf)
 ·refine FIN.valueK h0 rfl (congrArg (SV.int _) ?_);unfold checkM;rw[if_neg (by simpa using hv0),if_neg (by simp_all)]
 ·refine FIN.valueK h0 rfl (congrArg (SV.int _) ?_);unfold checkM;rw[if_neg (by simpa using hv0),if_pos (by simp_all)]
end Go.Proofs.YtbfbokdccdagkaaGreatDoor
namespace Go.Proofs.YtbfbokdccdagkaaGreatDoor
open Go.Sx Go.Our
end Go.Proofs.YtbfbokdccdagkaaGreatDoor
