/- Part 29: IsoSight, IsoJoin, IsoSplit, IsoCls. Conditions: as each part says. -/
import Derived.Lib.ItoaLen
import Derived.Test.YtlcbipfmodcedaaGreatDoorRfn23
import Derived.Test.YtlcbipfmodcedaaGreatDoorRfn27
import Derived.Test.YtlcbipfmodcedaaGreatDoorRfn28
set_option linter.unusedVariables false
set_option linter.unusedSimpArgs false
set_option maxRecDepth 20000
set_option maxHeartbeats 8000000
namespace Go.Proofs.YtlcbipfmodcedaaGreatDoor
open Go.Sx Go.Our Go.Lib
open Tryz
def Zdx:Go.Shelf.Ren:=⟨fun|243=>77|246=>115|283=>152|284=>153|285=>154|286=>155|129=>151|317=>200|318=>201|319=>202|320=>203|337=>248|338=>249|n=>n,fun|3=>3|9=>9|2=>2|4=>4|171=>215|0=>0|53=>162|37=>52|5=>5|173=>217|212=>257|51=>157|20=>20|213=>258|46=>177|232=>57|233=>323|n=>n,fun|17=>2|18=>4|19=>5|n=>n⟩
theorem ZiE:Go.Proofs.LaysM.n243 prog Zdx where
 mixed:=by kernel_rfl
 f129:=func151.trans (congrArg some (by kernel_rfl))
 f243:=func77.trans (congrArg some (by kernel_rfl))
 f246:=func115.trans (congrArg some (by kernel_rfl))
 f283:=func152.trans (congrArg some (by kernel_rfl))
 f284:=func153.trans (congrArg some (by kernel_rfl))
 f285:=func154.trans (congrArg some (by kernel_rfl))
 f286:=func155.trans (congrArg some (by kernel_rfl))
 f317:=func200.trans (congrArg some (by kernel_rfl))
 f318:=func201.trans (congrArg some (by kernel_rfl))
 f319:=func202.trans (congrArg some (by kernel_rfl))
 f320:=func203.trans (congrArg some (by kernel_rfl))
 f337:=func248.trans (congrArg some (by kernel_rfl))
 f338:=func249.trans (congrArg some (by kernel_rfl))
 t0:=underlying0
 a0:=isAgg0
 z0:=sizeOf0
 v0:=zeroValue0
 t2:=underlying2
 a2:=isAgg2
 z2:=sizeOf2
 v2:=zeroValue2
 t3:=underlying3
 a3:=isAgg3
 z3:=sizeOf3
 v3:=zeroValue3
 t4:=underlying4
 a4:=isAgg4
 z4:=sizeOf4
 v4:=zeroValue4
 t5:=underlying5
 a5:=isAgg5
 z5:=sizeOf5
 v5:=zeroValue5
 t9:=underlying9
 a9:=isAgg9
 z9:=sizeOf9
 v9:=zeroValue9
 t20:=underlying20
 a20:=isAgg20
 z20:=sizeOf20
 v20:=zeroValue20
 t37:=underlying52
 a37:=isAgg52
 z37:=sizeOf52
 v37:=zeroValue52
 t46:=underlying177
 a46:=isAgg177
 z46:=sizeOf177
 v46:=zeroValue177
 t51:=underlying157
 a51:=isAgg157
 z51:=sizeOf157
 v51:=zeroValue157
 t53:=underlying162
 a53:=isAgg162
 z53:=sizeOf162
 v53:=zeroValue162
 t171:=underlying215
 a171:=isAgg215
 z171:=sizeOf215
 v171:=zeroValue215
 t173:=underlying217
 a173:=isAgg217
 z173:=sizeOf217
 v173:=zeroValue217
 t212:=underlying257
 a212:=isAgg257
 z212:=sizeOf257
 v212:=zeroValue257
 t213:=underlying258
 a213:=isAgg258
 z213:=sizeOf258
 t232:=underlying57
 a232:=isAgg57
 z232:=sizeOf57
 v232:=zeroValue57
 t233:=underlying323
 a233:=isAgg323
 z233:=sizeOf323
 v233:=zeroValue323
 g17:=by kernel_rfl
 g18:=by kernel_rfl
 g19:=by kernel_rfl
 i0:=by kernel_rfl
 i2:=by kernel_rfl
 i3:=by kernel_rfl
 i4:=by kernel_rfl
 i5:=by kernel_rfl
 i9:=by kernel_rfl
 i20:=by kernel_rfl
 i37:=by kernel_rfl
 i46:=by kernel_rfl
 i51:=by kernel_rfl
 i53:=by kernel_rfl
 i171:=by kernel_rfl
 i173:=by kernel_rfl
 i212:=by kernel_rfl
 i232:=by kernel_rfl
 i233:=by kernel_rfl
 m17:=by kernel_rfl
 m18:=by kernel_rfl
 m19:=by kernel_rfl
def I64(n:Int):Prop:= -9223372036854775808<=n/\n<=9223372036854775807
theorem Zbw(n:Int)(h:I64 n):Does prog tab 77 0 [.int .i64 n] [] [] (Val (.str (itoa n))):=
 Zdw ZiE call77 (g:=2) (by kernel_rfl) (by kernel_rfl) n h.1 h.2
theorem Zbx(n:Int)(h:I64 n):Does prog tab 38 0 [.int .i64 n] [] [] (Val (.str (itoa n))):=by
 refine Does.enter Z0 call38 func38 rfl 5 rfl rfl [.tmp 2] rfl ?_;intro w0 F η0 h0;conv=>whnf
 repeat'((first|refine CALL.value (Zbw n h) rfl rfl ?_|refine AU ?_|(refine IW ?_ ?_<;>intro h<;>try(exfalso;omega)))<;>conv=>whnf)
 exact FIN.value h0 rfl rfl
def TmOK(N:Nat)(t:Tm):Prop:=t.t.length+t.y.length+t.l.length<=N/\I64 t.k
structure SdOK(N nc:Nat)(s:Sd):Prop where
 ts:TmOK N s.q.s
 tp:TmOK N s.q.p
 to:TmOK N s.q.o
 tg:TmOK N s.q.g
 a: -1<=s.a/\s.a< (nc:Int)
 b: -1<=s.b/\s.b< (nc:Int)
 c: -1<=s.c/\s.c< (nc:Int)
 d: -1<=s.d/\s.d< (nc:Int)
def JR(s:LB):LB:=(([61]++itoa (s.length:Int))++ [58])++s
end Go.Proofs.YtlcbipfmodcedaaGreatDoor
namespace Go.Proofs.YtlcbipfmodcedaaGreatDoor
open Go.Sx Go.Our Go.Lib
def Z1n(cl:List Int)(ins:List (List Sd)):List LB:=(List.range cl.length).map (keyM cl ins)
theorem Zah(cl:List Int)(ins:List (List Sd)):(Z1n cl ins).length=cl.length:=by simp[Z1n]
structure WOK(cl:List Int)(ins:List (List Sd)):Prop where
 len:ins.length=cl.length
 cs:∀c∈cl,0<=c/\c<67108864
 sd:∀l∈ins,∀s∈l,SdOK 1048576 cl.length s
 few:∀l∈ins,l.length<=4194304
 n:cl.length<=67108864
theorem WR{l:List Int}{k x:Nat}{v:Int}(hk:k=x):(l.map Zk).set k [.int .i64 v]=(l.set x v).map Zk:=by
 subst hk;exact Z9Q Zk l k v
inductive Settles(ins:List (List Sd)):List Int->Int->List Int->Int->Prop
 |stop {cl:List Int} {ct:Int} (h:¬ct< ((ZH (Z1n cl ins)).length:Int)):Settles ins cl ct (Wz (Z1n cl ins)) (ZH (Z1n cl ins)).length
 |go {cl:List Int} {ct:Int} {F:List Int} {c:Int} (h:ct< ((ZH (Z1n cl ins)).length:Int)) (k:Settles ins (Wz (Z1n cl ins)) (ZH (Z1n cl ins)).length F c):Settles ins cl ct F c
theorem Settles.det{ins:List (List Sd)}{cl:List Int}{ct:Int}{F F':List Int}{c c':Int}(h:Settles ins cl ct F c)(h':Settles ins cl ct F' c'):F'=F/\c'=c:=by
 induction h with
 |stop hn=>cases h' with
  |stop _=>exact⟨rfl,rfl⟩
  |go hy _=>exact(hn hy).elim
 |go hy _ ih=>cases h' with
  |stop hn=>exact(hn hy).elim
  |go _ k=>exact ih k
theorem WOK.next{cl:List Int}{ins:List (List Sd)}(h:WOK cl ins):WOK (Wz (Z1n cl ins)) ins/\(Wz (Z1n cl ins)).length=cl.length/\(ZH (Z1n cl ins)).length<=cl.length:=by
 have hl:(Wz (Z1n cl ins)).length=cl.length:=by rw[Jq,Zah]
 have hf:=Z17 (Z1n cl ins) cl.length;rw[List.take_of_length_le (by rw[Zah];exact Nat.le_refl _)]at hf;have:=h.n;exact⟨⟨by rw[hl];exact h.len,fun c hc=>by have:=Z4X _ c hc;omega,by rw[hl];exact h.sd,h.few,by omega⟩,hl,hf⟩
theorem Settles.ok{ins:List (List Sd)}{cl:List Int}{ct:Int}{F:List Int}{c:Int}(h:Settles ins cl ct F c):WOK cl ins->WOK F ins/\F.length=cl.length/\(∀x∈F,0<=x/\x<c)/\0<=c/\c<=(cl.length:Int):=by
 induction h with
 |stop _=>exact fun hw=>⟨hw.next.1,hw.next.2.1,fun x hx=>Z4X _ x hx,by omega,by have:=hw.next.2.2;omega⟩
 |go _ _ ih=>exact fun hw=>let⟨a,b,c,d,e⟩:=ih hw.next.1;⟨a,b.trans hw.next.2.1,c,d,by rw[hw.next.2.1]at e;exact e⟩
def Zai(l:List LB):List DC:=[.kid 1 (l.map Z8)]
def lbD(out:List (List LB)):List (List DC):=out.map Zai
theorem Zaj:∀out:List (List LB),Zt (lbD out)=true
 | []=>rfl
 |l::out=>by simp only[lbD,List.map_cons,Zai,Zt,Ys,JL,Zm,Bool.and_self,Bool.true_and];exact Zaj out
instance {out:List (List LB)}:PlD (lbD out):=⟨Zaj out⟩
theorem Zak{out:List (List LB)}{i:Nat}(h:i<out.length):(lbD out)[i]?=some (Zai out[i]):=by unfold lbD;rw[List.getElem?_map,List.getElem?_eq_getElem h];rfl
theorem Z7V(n:Nat):Z0I (List.replicate n [SV.val (.slice none 0 0)]) (lbD (List.replicate n [])):=by
 refine⟨by simp[lbD],fun a row' h=>?_⟩;unfold lbD at h;rw[List.map_replicate]at h;obtain⟨ha,hr⟩:=List.getElem?_eq_some_iff.1 h;rw[List.length_replicate]at ha;rw[List.getElem_replicate]at hr;subst hr;refine⟨_,by rw[List.getElem?_replicate,if_pos ha],?_⟩;exact And.intro (.inr ⟨rfl,1,rfl⟩) trivial
structure ClsOK(l:List Qd):Prop where
 few:l.length<=1048576
 tm:∀q∈l,TmOK 1048576 q.s/\TmOK 1048576 q.p/\TmOK 1048576 q.o/\TmOK 1048576 q.g
end Go.Proofs.YtlcbipfmodcedaaGreatDoor
