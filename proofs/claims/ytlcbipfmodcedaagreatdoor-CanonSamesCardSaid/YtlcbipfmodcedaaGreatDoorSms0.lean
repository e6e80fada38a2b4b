/- Part 0: ReadG, BijM, Iri2, Apart1, Ren8, Bij1, CanS, LawSames. Conditions: as each part says. -/
import Derived.Test.YtlcbipfmodcedaaGreatDoorRows
import Derived.Lib.LaidTab
import Derived.LaidSub
import Derived.Test.YtlcbipfmodcedaaGreatDoorFrm50
set_option linter.unusedVariables false
set_option linter.unusedSimpArgs false
namespace Go.Sx
open Go
end Go.Sx
namespace Go.Our
open Go.RowKit Go.ChangeShapes Go.WideShapes Go.ChangeAt Go.Sx
section
variable {H:Type}{enc:TypeId×Value->H}{P:Program}{w:World}
end
end Go.Our
namespace Go.Proofs.YtlcbipfmodcedaaGreatDoor
open Go.RowKit Go.Our Go.ChangeShapes Go.WideShapes Go.ChangeAt Go.Sx
open _root_.Go.Proofs.Tryz
theorem bB{g:FuncId}{args:List SV}{vs:List Value}{W:World}{v v':Value}{es es':Nat}{rs rs':List (List SV)}{en cu:Option wZ}(h:qN W v es rs en)(h':qN W v' es' rs' cu)(sp:vS prog uf g 2 args [] [(0, .rows es rs),(1, .rows es' rs')] (w6 2 (.bool true)))(eg:∀args w,(callFunc g args).run prog w= .ok (.enter g args) w)(hd:vV [en,cu] args vs)(hg:Dy W):
 Calls prog g ⟨vs⟩ W fun e W'=>e= .returned (.bool true)/\Below W.heap.size W W':=by
 refine ZbK (η0:=[en,cu]) rfl sp eg hd (fun p hp=>?_) (fun i e hi=>?_) hg
 .rcases zL.1 hp with rfl|hp
  exact h.sat rfl
  .have hp:=zI.1 hp;subst hp;exact h'.sat rfl
 .match i,hi with
  |0,hi=>injection hi with hi;exact h.1 e hi
  |1,hi=>injection hi with hi;exact h'.1 e hi
end Go.Proofs.YtlcbipfmodcedaaGreatDoor
set_option linter.unusedSectionVars false
namespace Go.Our
def z09(x y:List (List UInt8))(ps:List Pr):Bool:=
 decide (ps.length=x.length)&&decide (x.length=y.length)&&decide ((ps.map Prod.fst).mergeSort (q9 cmpL)=x)&&decide ((ps.map Prod.snd).mergeSort (q9 cmpL)=y)
section
variable {K:Type}[DecidableEq K]{c:K->K->Int}
end
end Go.Our
set_option maxRecDepth 20000
set_option maxHeartbeats 8000000
namespace Go.Proofs.YtlcbipfmodcedaaGreatDoor
open Go.Sx Go.Our
def s4:uu:=(Zs [(0,1),(1,1),(2,1),(3,1),(4,1),(5,1),(6,1),(7,1),(8,1),(9,1),(10,1)])
end Go.Proofs.YtlcbipfmodcedaaGreatDoor
namespace Go.Proofs.YtlcbipfmodcedaaGreatDoor
open Go.Sx Go.Our
def E7(a b:List Qd):Int:=if(YL a).2≠0 then(YL a).2 else(YL b).2
open _root_.Go.Proofs.Tryz
def En:uu:=(Zs [(0,1),(1,1),(2,1),(4,1),(5,1),(6,1),(3,2),(7,2),(8,1)])
theorem bE{K:Type}{l m:List K}{i:Nat}(hl:i<l.length)(hm:i<m.length)(h:l.take i=m.take i):l[i]=m[i]<->l.take (i+1)=m.take (i+1):=by
 rw[zH hl,zH hm,h];exact⟨fun e=>by rw[e],fun e=>(List.singleton_inj.1 (List.append_cancel_left e))⟩
theorem Eu{x y:Qd}(h:x.s.k=y.s.k/\x.s.t=y.s.t/\x.s.y=y.s.y/\x.s.l=y.s.l/\x.p.k=y.p.k/\x.p.t=y.p.t/\x.p.y=y.p.y/\x.p.l=y.p.l/\x.o.k=y.o.k/\x.o.t=y.o.t/\x.o.y=y.o.y/\x.o.l=y.o.l/\x.g.k=y.g.k/\x.g.t=y.g.t/\x.g.y=y.g.y/\x.g.l=y.g.l):x=y:=by
 obtain⟨⟨_,_,_,_⟩,⟨_,_,_,_⟩,⟨_,_,_,_⟩,⟨_,_,_,_⟩⟩:=x;obtain⟨⟨_,_,_,_⟩,⟨_,_,_,_⟩,⟨_,_,_,_⟩,⟨_,_,_,_⟩⟩:=y;obtain⟨rfl,rfl,rfl,rfl,rfl,rfl,rfl,rfl,rfl,rfl,rfl,rfl,rfl,rfl,rfl,rfl⟩:=h
 rfl
theorem rQ(l m BY AI:List Qd)(lA lB:Option Nat)(hl:(l++BY).length<=1152921504606846976)(hm:(m++AI).length<=1152921504606846976):vS prog uf 42 2 [.sl (.loc 0) 0 16 l.length lA, .sl (.loc 1) 0 16 m.length lB] [] [(0, .rows 16 ((l++BY).map Z3)),(1, .rows 16 ((m++AI).map Z3))] (w6 2 (.bool (decide (l=m)))):=by
 have kz:(l++BY).length=l.length+BY.length:=zh;have qy:(m++AI).length=m.length+AI.length:=zh;have get:∀{l z:List Qd} {i k:Nat} (h:i<l.length) (e:k=i),((l++z).map Z3)[k]?=some (Z3 l[i]):=fun h e=>by subst e;rw[z6,zn h,z1 h];rfl
 refine vS.enter Z0 call42 func42 rfl 26 rfl rfl [.tmp 4] rfl ?_;intro w0 F η0 h0;conv=>whnf
 repeat'(first|refine AU ?_|refine IW ?_ ?_<;>intro h<;>try omega)<;>conv=>whnf
 exact u0.ua h0 rfl (z8 SV.bool (y5 fun e=>by subst e;omega).symm);have hlm:l.length=m.length:=by omega
 refine vZ.kj Z0 [0,1,12] [] (X:=Nat) (fun i=>i<=l.length/\l.take i=m.take i) (fun i=>[(13, .int .i64 (i:Int))]) (fun i=>[]) 2 (fun i=>l.length-i) 0 ⟨by omega,rfl⟩ ?_;conv=>whnf
 refine⟨by exact vU.kA h0 [],?_⟩;rintro i ⟨hi,ht⟩;conv=>whnf
 by_cases hil:i<l.length
 .have hs:=bE hil (hlm▸hil) ht;repeat'(first|refine Z4 6 En ?_|refine wh.mk (fun _ _=>?_)|refine AD ?_|refine qz.mk ?_ ?_|refine GET.at (get hil (by omega)) ?_|refine GET.at (get (hlm▸hil) (by omega)) ?_|refine AU ?_|refine IW ?_ ?_<;>intro h<;>try omega)<;>conv=>whnf
  exact u0.ua h0 rfl (z8 SV.bool (y5 fun e=>by subst e;simp at h).symm);refine⟨i+1,⟨by omega,hs.1 (Eu h)⟩,by omega,?_⟩;conv=>whnf
  exact vU.kA h0 []
 .repeat'(first|refine AU ?_|refine IW ?_ ?_<;>intro h<;>try omega)<;>conv=>whnf
  rw[show i=l.length by omega,y8,hlm,y8]at ht;exact u0.ua h0 rfl (z8 SV.bool (yq ht).symm)
def JA(a b:List Qd)(ps:List Pr):Int:=if E7 a b≠0 then E7 a b else if z09 (ZQ a) (ZQ b) ps=true/\wj ZP (a.map (oE ps))=b then 0 else 140
end Go.Proofs.YtlcbipfmodcedaaGreatDoor
namespace Go.Proofs.YtlcbipfmodcedaaGreatDoor
open Go.Sx Go.Our Go.Lib
open _root_.Go.Proofs.Tryz
noncomputable def z00 (l:List Qd)(b:Int):Int:=if kJ l≠0 then kJ l else if jU b< (JM (ZQ l) l (jU b)).1 then 4 else 0
noncomputable def z02 (l:List Qd)(b:Int):List Qd:=match JV (ZA (ZQ l) l) (JM (ZQ l) l (jU b)).2 with|some x=>x.1|none=>[]
theorem z03{l:List Qd}{b:Int}{r:SV}{O:vX}{nx:Nat}(h:Gv l b r O nx):
 (z00 l b≠0/\r= .uz [.val (.slice none 0 0), .val (.slice none 0 0), .int .i64 (z00 l b)]/\O=[]/\nx=1)\/
 (z00 l b=0/\∃c,wH (ZQ l) c/\JV (ZA (ZQ l) l) (JM (ZQ l) l (jU b)).2=some (ZA (ZQ l) l c,c)/\z02 l b=ZA (ZQ l) l c/\
   r= .uz [.sl (.loc 1) 0 16 l.length none, .sl (.loc 2) 0 2 (ZQ l).length none, .int .i64 0]/\O=[(1, .rows 16 ((ZA (ZQ l) l c).map Z3)),(2, .rows 2 ((wC (ZQ l) c).map Yu))]/\nx=3):=by
 rcases h with⟨h1,rfl,rfl,rfl⟩|⟨h1,h2,rfl,rfl,rfl⟩|⟨h1,h2,c,hc,hb,rfl,rfl,rfl⟩
 .have e:z00 l b=kJ l:=by unfold z00;rw[zf h1]
  exact .inl ⟨by rw[e];exact h1,by rw[e],rfl,rfl⟩
 .have e:z00 l b=4:=by unfold z00;rw[z7 (by omega),zf h2]
  exact .inl ⟨by omega,by rw[e],rfl,rfl⟩
 .have e:z00 l b=0:=by unfold z00;rw[z7 (by omega),z7 (by omega)]
  exact .inr ⟨e,c,hc,hb,by unfold z02;rw[hb],rfl,rfl,rfl⟩
noncomputable def z04 (a b:List Qd)(n:Int):Int:=if z00 a n≠0 then z00 a n else z00 b n
noncomputable def z05 (a b:List Qd)(n:Int):Bool:=decide (z00 a n=0/\z00 b n=0/\z02 a n=z02 b n)
theorem bD(a za b zb:List Qd)(z06 z07:Option Nat)(n:Int)(lE: -9223372036854775808<=n/\n<=9223372036854775807)(ha:JS a)(DO:tJ a)(hb:JS b)(By:tJ b)(hza:(a++za).length<=1152921504606846976)(hzb:(b++zb).length<=1152921504606846976):
 vS prog uf 18 2 [.sl (.loc 0) 0 16 a.length z06, .sl (.loc 1) 0 16 b.length z07, .int .i64 n] [] [(0, .rows 16 ((a++za).map Z3)),(1, .rows 16 ((b++zb).map Z3))] (fun r O nx=>r= .uz [.bool (z05 a b n), .int .i64 (z04 a b n)]/\O=[]/\nx=2):=by
 have hA:=ZcL a za z06 n lE ha DO hza;have hB:=ZcL b zb z07 n lE hb By hzb;have eN:=ha;have hb':=hb;unfold JS at eN hb';have Ka:z05 a b n=decide (z00 a n=0/\z00 b n=0/\z02 a n=z02 b n):=rfl;have hsE:z04 a b n=if z00 a n≠0 then z00 a n else z00 b n:=rfl
 generalize z05 a b n=sB at Ka⊢;generalize z04 a b n=BE at hsE⊢;refine vS.enter Z0 call18 func18 rfl 36 rfl rfl [.tmp 6, .tmp 7] rfl ?_;intro w0 F η0 h0;conv=>whnf
 repeat'(first|refine AU ?_|refine IW ?_ ?_<;>intro h<;>try omega)<;>conv=>whnf
 refine CALL.aA [0] (hA) ?_;rintro r O nx hQ;rcases z03 hQ with⟨h1,rfl,rfl,rfl⟩|⟨h1,c,HV,hbc,hFc,rfl,rfl,rfl⟩
 .rw[y5 (fun h=>h1 h.1)]at Ka;rw[zf h1]at hsE;generalize z00 a n=e at h1 hsE;subst Ka hsE;conv=>whnf
  repeat'(first|refine AU ?_|refine IW ?_ ?_<;>intro h<;>try omega)<;>conv=>whnf
  exact u0.val h0 rfl ⟨rfl,rfl,rfl⟩
 rw[z7 (by omega)]at hsE;conv=>whnf
 repeat'(first|refine AU ?_|refine IW ?_ ?_<;>intro h<;>try omega)<;>conv=>whnf
 refine CALL.aA [1] (hB) ?_;rintro r O nx hQ;rcases z03 hQ with⟨h2,rfl,rfl,rfl⟩|⟨h2,d,hLd,hbd,hFd,rfl,rfl,rfl⟩
 .rw[y5 (fun h=>h2 h.2.1)]at Ka;generalize z00 b n=e at h2 hsE;subst Ka hsE;conv=>whnf
  repeat'(first|refine AU ?_|refine IW ?_ ?_<;>intro h<;>try omega)<;>conv=>whnf
  exact u0.val h0 rfl ⟨rfl,rfl,rfl⟩
 rw[h2]at hsE;have hfa:=JX (ZQ a) a c;have mI:=JX (ZQ b) b d;have hEq:=rQ (ZA (ZQ a) a c) (ZA (ZQ b) b d) [] [] none none (by simp;omega) (by simp;omega);rw[zP,zP,hfa,mI]at hEq
 have eV:decide (ZA (ZQ a) a c=ZA (ZQ b) b d)=sB:=by
  rw[Ka,hFc,hFd];exact vv.2 ⟨fun h=>⟨h1,h2,h⟩,fun h=>h.2.2⟩
 rw[eV]at hEq;subst hsE;conv=>whnf
 repeat'(first|refine AU ?_|refine IW ?_ ?_<;>intro h<;>try omega)<;>conv=>whnf
 refine CALL.aA [2,4] (hEq) ?_;rintro r O nx ⟨rfl,rfl,rfl⟩;conv=>whnf
 repeat'(first|refine AU ?_|refine IW ?_ ?_<;>intro h<;>try omega)<;>conv=>whnf
 exact u0.aA h0 [] (.uz [.bool sB, .int .i64 0]) [] ⟨rfl,rfl,rfl⟩
open _root_.Go.Proofs.Tryz
theorem rU(X Y z w:List Qd)(lA lB:Option Nat)(h:(X++z).length<=1152921504606846976)(h':(Y++w).length<=1152921504606846976):vS prog uf 15 2 [.sl (.loc 0) 0 16 X.length lA, .sl (.loc 1) 0 16 Y.length lB] [] [(0, .rows 16 ((X++z).map Z3)),(1, .rows 16 ((Y++w).map Z3))] (w6 2 (.bool (decide (X=Y)))):=by
 have hh:=W0 (X++z) (Y++w) 0 X.length 0 Y.length lA lB (by simp) (by simp) h h';rwa [yN,yN,List.take_left,List.take_left]at hh
set_option maxHeartbeats 16000000 in
theorem bA(a b:List Qd)(n:Int)(lE: -9223372036854775808<=n/\n<=9223372036854775807)(ha:JS a)(hb:JS b)(DO:tJ a)(By:tJ b):vS prog uf 5 2 [.sl (.loc 0) 0 16 a.length none, .sl (.loc 1) 0 16 b.length none, .int .i64 n] [] [(0, .rows 16 (a.map Z3)),(1, .rows 16 (b.map Z3))] (w6 2 (.bool true)):=by
 have eN:=ha;have hb':=hb;unfold JS at eN hb';have hS:=bD a [] b [] none none n lE ha DO hb By (by simp;omega) (by simp;omega);have hA:=Zad a [] none n lE ha DO (by simp;omega);have hB:=Zad b [] none n lE hb By (by simp;omega);rw[zP]at hA hB;rw[zP,zP]at hS;have Ka:z05 a b n=decide (z00 a n=0/\z00 b n=0/\z02 a n=z02 b n):=rfl;have hsE:z04 a b n=if z00 a n≠0 then z00 a n else z00 b n:=rfl
 generalize z05 a b n=sB at Ka hS;generalize z04 a b n=BE at hsE hS;refine vS.enter Z0 call5 func5 rfl 53 rfl rfl [.tmp 6] rfl ?_;intro w0 F η0 h0;conv=>whnf
 repeat'(first|refine AU ?_|refine IW ?_ ?_<;>intro h<;>try omega)<;>conv=>whnf
 refine CALL.aA [0,1] (hS) ?_;rintro r O nx ⟨rfl,rfl,rfl⟩;conv=>whnf
 repeat'(first|refine AU ?_|refine IW ?_ ?_<;>intro h<;>try omega)<;>conv=>whnf
 refine CALL.aA [0] (hA) ?_;rintro r O nx hQ;rcases z03 hQ with⟨h1,rfl,rfl,rfl⟩|⟨h1,c,HV,hbc,hFc,rfl,rfl,rfl⟩
 .rw[y5 (fun h=>h1 h.1)]at Ka;rw[zf h1]at hsE;generalize z00 a n=e at h1 hsE;subst Ka hsE;conv=>whnf
  repeat'(first|refine AU ?_|refine IW ?_ ?_<;>intro h<;>try omega)<;>conv=>whnf
  refine CALL.aA [1] (hB) ?_;rintro r O nx hQ;rcases z03 hQ with⟨h2,rfl,rfl,rfl⟩|⟨h2,d,hLd,hbd,hFd,rfl,rfl,rfl⟩
  all_goals
   conv=>whnf
   repeat'(first|refine AU ?_|refine IW ?_ ?_<;>intro h<;>try omega)<;>conv=>whnf
   all_goals first|(exfalso;omega)|exact u0.ua h0 rfl rfl
 rw[z7 (by omega)]at hsE;conv=>whnf
 repeat'(first|refine AU ?_|refine IW ?_ ?_<;>intro h<;>try omega)<;>conv=>whnf
 refine CALL.aA [1] (hB) ?_;rintro r O nx hQ;rcases z03 hQ with⟨h2,rfl,rfl,rfl⟩|⟨h2,d,hLd,hbd,hFd,rfl,rfl,rfl⟩
 .rw[y5 (fun h=>h2 h.2.1)]at Ka;generalize z00 b n=e at h2 hsE;subst Ka hsE;conv=>whnf
  repeat'(first|refine AU ?_|refine IW ?_ ?_<;>intro h<;>try omega)<;>conv=>whnf
  all_goals first|(exfalso;omega)|exact u0.ua h0 rfl rfl
 rw[h2]at hsE;have hfa:=JX (ZQ a) a c;have mI:=JX (ZQ b) b d;have hEq:=rU (ZA (ZQ a) a c) (ZA (ZQ b) b d) [] [] none none (by simp;omega) (by simp;omega);rw[zP,zP,hfa,mI]at hEq
 have eV:decide (ZA (ZQ a) a c=ZA (ZQ b) b d)=sB:=by
  rw[Ka,hFc,hFd];exact vv.2 ⟨fun h=>⟨h1,h2,h⟩,fun h=>h.2.2⟩
 rw[eV]at hEq;subst hsE;conv=>whnf
 repeat'(first|refine AU ?_|refine IW ?_ ?_<;>intro h<;>try omega)<;>conv=>whnf
 refine CALL.aA [2,4] (hEq) ?_;rintro r O nx ⟨rfl,rfl,rfl⟩;conv=>whnf
 repeat'(first|refine AU ?_|refine IW ?_ ?_<;>intro h<;>try omega)<;>conv=>whnf
 all_goals first|(exfalso;omega)|exact u0.ua h0 rfl (by simp)|exact u0.ua h0 rfl rfl
end Go.Proofs.YtlcbipfmodcedaaGreatDoor
