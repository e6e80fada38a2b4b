/- Part 23: Bij1. Conditions: as each part says. -/
import Derived.Test.YtbfbokdccdagkaaGreatDoorFnd17
import Derived.Test.YtbfbokdccdagkaaGreatDoorFnd22
set_option linter.unusedVariables false
set_option linter.unusedSimpArgs false
set_option maxRecDepth 20000
set_option maxHeartbeats 8000000
namespace Go.Proofs.YtbfbokdccdagkaaGreatDoor
open Go.Sx Go.Our
open Tryz
def Zhq:Plan:=(Zv [(0,1),(1,1),(2,1),(4,1),(5,1),(6,1),(3,2),(7,2),(8,1)])
theorem Z7Q{α:Type}{l m:List α}{i:Nat}(hl:i<l.length)(hm:i<m.length)(h:l.take i=m.take i):l[i]=m[i]<->l.take (i+1)=m.take (i+1):=by
 rw[List.take_succ_eq_append_getElem hl,List.take_succ_eq_append_getElem hm,h];exact⟨fun e=>by rw[e],fun e=>(List.singleton_inj.1 (List.append_cancel_left e))⟩
theorem Zgp{x y:Qd}(h:x.s.k=y.s.k/\x.s.t=y.s.t/\x.s.y=y.s.y/\x.s.l=y.s.l/\x.p.k=y.p.k/\x.p.t=y.p.t/\x.p.y=y.p.y/\x.p.l=y.p.l/\x.o.k=y.o.k/\x.o.t=y.o.t/\x.o.y=y.o.y/\x.o.l=y.o.l/\x.g.k=y.g.k/\x.g.t=y.g.t/\x.g.y=y.g.y/\x.g.l=y.g.l):x=y:=by
 obtain⟨⟨_,_,_,_⟩,⟨_,_,_,_⟩,⟨_,_,_,_⟩,⟨_,_,_,_⟩⟩:=x;obtain⟨⟨_,_,_,_⟩,⟨_,_,_,_⟩,⟨_,_,_,_⟩,⟨_,_,_,_⟩⟩:=y;obtain⟨rfl,rfl,rfl,rfl,rfl,rfl,rfl,rfl,rfl,rfl,rfl,rfl,rfl,rfl,rfl,rfl⟩:=h
 rfl
theorem Z96(l m zl zm:List Qd)(lA lB:Option Nat)(hl:(l++zl).length<=1152921504606846976)(hm:(m++zm).length<=1152921504606846976):Does prog tab 48 2 [.sl (.loc 0) 0 16 l.length lA, .sl (.loc 1) 0 16 m.length lB] [] [(0, .rows 16 ((l++zl).map Zj)),(1, .rows 16 ((m++zm).map Zj))] (ValK 2 (.bool (decide (l=m)))):=by
 have hl1:(l++zl).length=l.length+zl.length:=List.length_append;have hm1:(m++zm).length=m.length+zm.length:=List.length_append;have get:∀{l z:List Qd} {i k:Nat} (h:i<l.length) (e:k=i),((l++z).map Zj)[k]?=some (Zj l[i]):=fun h e=>by subst e;rw[List.getElem?_map,List.getElem?_append_left h,List.getElem?_eq_getElem h];rfl
 refine Does.enter Z1 call48 func48 rfl 26 rfl rfl [.tmp 4] rfl ?_;intro w0 F η0 h0;conv=>whnf
 repeat'((first|refine AU ?_|(refine IW ?_ ?_<;>intro h<;>try(exfalso;omega)))<;>conv=>whnf)
 ·exact FIN.valueK h0 rfl (congrArg SV.bool (decide_eq_false fun e=>by subst e;omega).symm)
 have hlm:l.length=m.length:=by omega
 refine LOOP.gok Z1 [0,1,12] [] (X:=Nat) (fun i=>i<=l.length/\l.take i=m.take i) (fun i=>[(13, .int .i64 (i:Int))]) (fun i=>[]) 2 (fun i=>l.length-i) 0 ⟨by omega,rfl⟩ ?_;conv=>whnf
 refine⟨by exact GOES.kA h0 [],?_⟩;rintro i ⟨hi,ht⟩;conv=>whnf
 by_cases hil:i<l.length
 ·have hs:=Z7Q hil (hlm▸hil) ht;repeat'((first|refine DRAWN.of (id:=6) Z1 mixed Zhq (by kernel_rfl) ?_|refine ADD.mk (fun _ _=>?_)|refine AD ?_|refine FORK.mk ?_ ?_|(refine GET.at (get hil (by omega)) ?_;conv=>whnf)|(refine GET.at (get (hlm▸hil) (by omega)) ?_;conv=>whnf)|refine AU ?_|(refine IW ?_ ?_<;>intro h<;>try(exfalso;omega)))<;>conv=>whnf)
  ·exact FIN.valueK h0 rfl (congrArg SV.bool (decide_eq_false fun e=>by subst e;simp at h).symm)
  refine⟨i+1,⟨by omega,hs.1 (Zgp h)⟩,by omega,?_⟩;conv=>whnf
  exact GOES.kA h0 []
 ·repeat'((first|refine AU ?_|(refine IW ?_ ?_<;>intro h<;>try(exfalso;omega)))<;>conv=>whnf)
  rw[show i=l.length by omega,List.take_length,hlm,List.take_length]at ht;exact FIN.valueK h0 rfl (congrArg SV.bool (decide_eq_true ht).symm)
def X7(a b:List Qd)(ps:List Pr):Int:=if Vn a b≠0 then Vn a b else if bijM (Z0 a) (Z0 b) ps=true/\setL Ju (a.map (Zj8 ps))=b then 0 else 140
end Go.Proofs.YtbfbokdccdagkaaGreatDoor
