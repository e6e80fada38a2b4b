/- Part 45: CanS. Conditions: as each part says. -/
import Derived.Test.YtlcbipfmodcedaaGreatDoorCiso25
import Derived.Test.YtlcbipfmodcedaaGreatDoorCiso44
set_option linter.unusedVariables false
set_option linter.unusedSimpArgs false
set_option maxRecDepth 20000
set_option maxHeartbeats 8000000
namespace Go.Proofs.YtlcbipfmodcedaaGreatDoor
open Go.Sx Go.Our Go.Lib
open _root_.Go.Proofs.Tryz
noncomputable def uX (l:List Qd)(b:Int):Int:=if jf l≠0 then jf l else if qu b< (ZU (Z0 l) l (qu b)).1 then 4 else 0
noncomputable def jP (l:List Qd)(b:Int):List Qd:=match Js (ZH (Z0 l) l) (ZU (Z0 l) l (qu b)).2 with|some x=>x.1|none=>[]
theorem oH{l:List Qd}{b:Int}{r:SV}{O:u0}{nx:Nat}(h:Aq l b r O nx):
 (uX l b≠0/\r= .uI [.val (.slice none 0 0), .val (.slice none 0 0), .int .i64 (uX l b)]/\O=[]/\nx=1)\/
 (uX l b=0/\∃c,qz (Z0 l) c/\Js (ZH (Z0 l) l) (ZU (Z0 l) l (qu b)).2=some (ZH (Z0 l) l c,c)/\jP l b=ZH (Z0 l) l c/\
   r= .uI [.sl (.loc 1) 0 16 l.length none, .sl (.loc 2) 0 2 (Z0 l).length none, .int .i64 0]/\O=[(1, .rows 16 ((ZH (Z0 l) l c).map Zd)),(2, .rows 2 ((kG (Z0 l) c).map JM))]/\nx=3):=by
 rcases h with⟨h1,rfl,rfl,rfl⟩|⟨h1,h2,rfl,rfl,rfl⟩|⟨h1,h2,c,hc,hb,rfl,rfl,rfl⟩
 .have e:uX l b=jf l:=by unfold uX;rw[z8 h1]
  exact .inl ⟨by rw[e];exact h1,by rw[e],rfl,rfl⟩
 .have e:uX l b=4:=by unfold uX;rw[z6 (by omega),z8 h2]
  exact .inl ⟨by omega,by rw[e],rfl,rfl⟩
 .have e:uX l b=0:=by unfold uX;rw[z6 (by omega),z6 (by omega)]
  exact .inr ⟨e,c,hc,hb,by unfold jP;rw[hb],rfl,rfl,rfl⟩
noncomputable def nX (a b:List Qd)(n:Int):Int:=if uX a n≠0 then uX a n else uX b n
noncomputable def nY (a b:List Qd)(n:Int):Bool:=decide (uX a n=0/\uX b n=0/\jP a n=jP b n)
theorem ZbZ(a za b zb:List Qd)(eX cm:Option Nat)(n:Int)(iU: -9223372036854775808<=n/\n<=9223372036854775807)(ha:VU a)(qa:nH a)(hb:VU b)(qb:nH b)(QF:(a++za).length<=1152921504606846976)(QG:(b++zb).length<=1152921504606846976):
 vW prog uv 18 2 [.sl (.loc 0) 0 16 a.length eX, .sl (.loc 1) 0 16 b.length cm, .int .i64 n] [] [(0, .rows 16 ((a++za).map Zd)),(1, .rows 16 ((b++zb).map Zd))] (fun r O nx=>r= .uI [.bool (nY a b n), .int .i64 (nX a b n)]/\O=[]/\nx=2):=by
 have hA:=Vz a za eX n iU ha qa QF;have hB:=Vz b zb cm n iU hb qb QG;have iN:=ha;have hb':=hb;unfold VU at iN hb';have dD:nY a b n=decide (uX a n=0/\uX b n=0/\jP a n=jP b n):=rfl;have cG:nX a b n=if uX a n≠0 then uX a n else uX b n:=rfl
 generalize nY a b n=sB at dD⊢;generalize nX a b n=sE at cG⊢;refine vW.enter Z3 call18 func18 rfl 36 rfl rfl [.tmp 6, .tmp 7] rfl ?_;intro w0 F η0 h0;conv=>whnf
 repeat'(first|refine AU ?_|refine IW ?_ ?_<;>intro h<;>try omega)<;>conv=>whnf
 refine CALL.aA [0] (hA) ?_;rintro r O nx hQ;rcases oH hQ with⟨h1,rfl,rfl,rfl⟩|⟨h1,c,iP,hbc,EG,rfl,rfl,rfl⟩
 .rw[yp (fun h=>h1 h.1)]at dD;rw[z8 h1]at cG;generalize uX a n=e at h1 cG;subst dD cG;conv=>whnf
  repeat'(first|refine AU ?_|refine IW ?_ ?_<;>intro h<;>try omega)<;>conv=>whnf
  exact u9.val h0 rfl ⟨rfl,rfl,rfl⟩
 rw[z6 (by omega)]at cG;conv=>whnf
 repeat'(first|refine AU ?_|refine IW ?_ ?_<;>intro h<;>try omega)<;>conv=>whnf
 refine CALL.aA [1] (hB) ?_;rintro r O nx hQ;rcases oH hQ with⟨h2,rfl,rfl,rfl⟩|⟨h2,d,Au,hbd,F4,rfl,rfl,rfl⟩
 .rw[yp (fun h=>h2 h.2.1)]at dD;generalize uX b n=e at h2 cG;subst dD cG;conv=>whnf
  repeat'(first|refine AU ?_|refine IW ?_ ?_<;>intro h<;>try omega)<;>conv=>whnf
  exact u9.val h0 rfl ⟨rfl,rfl,rfl⟩
 rw[h2]at cG;have EH:=U6 (Z0 a) a c;have bP:=U6 (Z0 b) b d;have hEq:=RT (ZH (Z0 a) a c) (ZH (Z0 b) b d) [] [] none none (by simp;omega) (by simp;omega);rw[zU,zU,EH,bP]at hEq
 have fu:decide (ZH (Z0 a) a c=ZH (Z0 b) b d)=sB:=by
  rw[dD,EG,F4];exact ve.2 ⟨fun h=>⟨h1,h2,h⟩,fun h=>h.2.2⟩
 rw[fu]at hEq;subst cG;conv=>whnf
 repeat'(first|refine AU ?_|refine IW ?_ ?_<;>intro h<;>try omega)<;>conv=>whnf
 refine CALL.aA [2,4] (hEq) ?_;rintro r O nx ⟨rfl,rfl,rfl⟩;conv=>whnf
 repeat'(first|refine AU ?_|refine IW ?_ ?_<;>intro h<;>try omega)<;>conv=>whnf
 exact u9.aA h0 [] (.uI [.bool sB, .int .i64 0]) [] ⟨rfl,rfl,rfl⟩
end Go.Proofs.YtlcbipfmodcedaaGreatDoor
