/- Part 25: Bij1. Conditions: as each part says. -/
import Derived.Test.YtlcbipfmodcedaaGreatDoorCiso16
import Derived.Test.YtlcbipfmodcedaaGreatDoorCiso24
set_option linter.unusedVariables false
set_option linter.unusedSimpArgs false
set_option maxRecDepth 20000
set_option maxHeartbeats 8000000
namespace Go.Proofs.YtlcbipfmodcedaaGreatDoor
open Go.Sx Go.Our
open _root_.Go.Proofs.Tryz
def ZiC:uJ:=(ZI [(0,1),(1,1),(2,1),(4,1),(5,1),(6,1),(3,2),(7,2),(8,1)])
theorem Zej{K:Type}{l m:List K}{i:Nat}(hl:i<l.length)(hm:i<m.length)(h:l.take i=m.take i):l[i]=m[i]<->l.take (i+1)=m.take (i+1):=by
 rw[zB hl,zB hm,h];exact⟨fun e=>by rw[e],fun e=>(List.singleton_inj.1 (List.append_cancel_left e))⟩
theorem Zkq{x y:Qd}(h:x.s.k=y.s.k/\x.s.t=y.s.t/\x.s.y=y.s.y/\x.s.l=y.s.l/\x.p.k=y.p.k/\x.p.t=y.p.t/\x.p.y=y.p.y/\x.p.l=y.p.l/\x.o.k=y.o.k/\x.o.t=y.o.t/\x.o.y=y.o.y/\x.o.l=y.o.l/\x.g.k=y.g.k/\x.g.t=y.g.t/\x.g.y=y.g.y/\x.g.l=y.g.l):x=y:=by
 obtain⟨⟨_,_,_,_⟩,⟨_,_,_,_⟩,⟨_,_,_,_⟩,⟨_,_,_,_⟩⟩:=x;obtain⟨⟨_,_,_,_⟩,⟨_,_,_,_⟩,⟨_,_,_,_⟩,⟨_,_,_,_⟩⟩:=y;obtain⟨rfl,rfl,rfl,rfl,rfl,rfl,rfl,rfl,rfl,rfl,rfl,rfl,rfl,rfl,rfl,rfl⟩:=h
 rfl
theorem RT(l m zl zm:List Qd)(lA lB:Option Nat)(hl:(l++zl).length<=1152921504606846976)(hm:(m++zm).length<=1152921504606846976):vW prog uv 42 2 [.sl (.loc 0) 0 16 l.length lA, .sl (.loc 1) 0 16 m.length lB] [] [(0, .rows 16 ((l++zl).map Zd)),(1, .rows 16 ((m++zm).map Zd))] (qd 2 (.bool (decide (l=m)))):=by
 have kZ:(l++zl).length=l.length+zl.length:=ze;have wz:(m++zm).length=m.length+zm.length:=ze;have get:∀{l z:List Qd} {i k:Nat} (h:i<l.length) (e:k=i),((l++z).map Zd)[k]?=some (Zd l[i]):=fun h e=>by subst e;rw[z7,zu h,z1 h];rfl
 refine vW.enter Z3 call42 func42 rfl 26 rfl rfl [.tmp 4] rfl ?_;intro w0 F η0 h0;conv=>whnf
 repeat'(first|refine AU ?_|refine IW ?_ ?_<;>intro h<;>try omega)<;>conv=>whnf
 exact u9.uh h0 rfl (zf SV.bool (yp fun e=>by subst e;omega).symm);have BV:l.length=m.length:=by omega
 refine ua.j5 Z3 [0,1,12] [] (X:=Nat) (fun i=>i<=l.length/\l.take i=m.take i) (fun i=>[(13, .int .i64 (i:Int))]) (fun i=>[]) 2 (fun i=>l.length-i) 0 ⟨by omega,rfl⟩ ?_;conv=>whnf
 refine⟨by exact vY.kA h0 [],?_⟩;rintro i ⟨hi,ht⟩;conv=>whnf
 by_cases hil:i<l.length
 .have hs:=Zej hil (BV▸hil) ht;repeat'(first|refine Zs 6 ZiC ?_|refine qW.mk (fun _ _=>?_)|refine AD ?_|refine w6.mk ?_ ?_|refine GET.at (get hil (by omega)) ?_|refine GET.at (get (BV▸hil) (by omega)) ?_|refine AU ?_|refine IW ?_ ?_<;>intro h<;>try omega)<;>conv=>whnf
  exact u9.uh h0 rfl (zf SV.bool (yp fun e=>by subst e;simp at h).symm);refine⟨i+1,⟨by omega,hs.1 (Zkq h)⟩,by omega,?_⟩;conv=>whnf
  exact vY.kA h0 []
 .repeat'(first|refine AU ?_|refine IW ?_ ?_<;>intro h<;>try omega)<;>conv=>whnf
  rw[show i=l.length by omega,yb,BV,yb]at ht;exact u9.uh h0 rfl (zf SV.bool (yA ht).symm)
def uF(a b:List Qd)(ps:List Pr):Int:=if Jf a b≠0 then Jf a b else if Bh (Z0 a) (Z0 b) ps=true/\wQ ZJ (a.map (XO ps))=b then 0 else 140
end Go.Proofs.YtlcbipfmodcedaaGreatDoor
