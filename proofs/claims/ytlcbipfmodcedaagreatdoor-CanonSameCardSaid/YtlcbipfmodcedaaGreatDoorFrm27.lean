/- Part 27: IsoSight, IsoJoin, IsoSplit, IsoCls. Conditions: as each part says. -/
import Derived.Lib.ItoaLen
import Derived.Test.YtlcbipfmodcedaaGreatDoorFrm21
import Derived.Test.YtlcbipfmodcedaaGreatDoorFrm25
import Derived.Test.YtlcbipfmodcedaaGreatDoorFrm26
set_option linter.unusedVariables false
set_option linter.unusedSimpArgs false
set_option maxRecDepth 20000
set_option maxHeartbeats 8000000
namespace Go.Proofs.YtlcbipfmodcedaaGreatDoor
open Go.Sx Go.Our Go.Lib
open _root_.Go.Proofs.Tryz
def ZeI:Go.Shelf.Ren:=⟨fun|243=>77|246=>115|283=>152|284=>153|285=>154|286=>155|129=>151|317=>200|318=>201|319=>202|320=>203|337=>248|338=>249|n=>n,fun|3=>3|9=>9|2=>2|4=>4|171=>215|0=>0|53=>162|37=>52|5=>5|173=>217|212=>257|51=>157|20=>20|213=>258|46=>177|232=>57|233=>323|n=>n,fun|17=>2|18=>4|19=>5|n=>n⟩
theorem ZkL:Go.Proofs.LaysM.n243 prog ZeI where
 mixed:=by kernel_rfl
 f129:=func151.trans (z8 some (by kernel_rfl))
 f243:=func77.trans (z8 some (by kernel_rfl))
 f246:=func115.trans (z8 some (by kernel_rfl))
 f283:=func152.trans (z8 some (by kernel_rfl))
 f284:=func153.trans (z8 some (by kernel_rfl))
 f285:=func154.trans (z8 some (by kernel_rfl))
 f286:=func155.trans (z8 some (by kernel_rfl))
 f317:=func200.trans (z8 some (by kernel_rfl))
 f318:=func201.trans (z8 some (by kernel_rfl))
 f319:=func202.trans (z8 some (by kernel_rfl))
 f320:=func203.trans (z8 some (by kernel_rfl))
 f337:=func248.trans (z8 some (by kernel_rfl))
 f338:=func249.trans (z8 some (by kernel_rfl))
 t0:=underlying0
 a0:=isAgg0
 z0:=sizeOf0
 v0:=zeroValue0
 t2:=underlying2
 a2:=isAgg2
 z2:=sizeOf2
 v2:=zeroValue2
 t3:=underlying3
 a3:=isAgg3
 z3:=sizeOf3
 v3:=zeroValue3
 t4:=underlying4
 a4:=isAgg4
 z4:=sizeOf4
 v4:=zeroValue4
 t5:=underlying5
 a5:=isAgg5
 z5:=sizeOf5
 v5:=zeroValue5
 t9:=underlying9
 a9:=isAgg9
 z9:=sizeOf9
 v9:=zeroValue9
 t20:=underlying20
 a20:=isAgg20
 z20:=sizeOf20
 v20:=zeroValue20
 t37:=underlying52
 a37:=isAgg52
 z37:=sizeOf52
 v37:=zeroValue52
 t46:=underlying177
 a46:=isAgg177
 z46:=sizeOf177
 v46:=zeroValue177
 t51:=underlying157
 a51:=isAgg157
 z51:=sizeOf157
 v51:=zeroValue157
 t53:=underlying162
 a53:=isAgg162
 z53:=sizeOf162
 v53:=zeroValue162
 t171:=underlying215
 a171:=isAgg215
 z171:=sizeOf215
 v171:=zeroValue215
 t173:=underlying217
 a173:=isAgg217
 z173:=sizeOf217
 v173:=zeroValue217
 t212:=underlying257
 a212:=isAgg257
 z212:=sizeOf257
 v212:=zeroValue257
 t213:=underlying258
 a213:=isAgg258
 z213:=sizeOf258
 t232:=underlying57
 a232:=isAgg57
 z232:=sizeOf57
 v232:=zeroValue57
 t233:=underlying323
 a233:=isAgg323
 z233:=sizeOf323
 v233:=zeroValue323
 g17:=by kernel_rfl
 g18:=by kernel_rfl
 g19:=by kernel_rfl
 i0:=by kernel_rfl
 i2:=by kernel_rfl
 i3:=by kernel_rfl
 i4:=by kernel_rfl
 i5:=by kernel_rfl
 i9:=by kernel_rfl
 i20:=by kernel_rfl
 i37:=by kernel_rfl
 i46:=by kernel_rfl
 i51:=by kernel_rfl
 i53:=by kernel_rfl
 i171:=by kernel_rfl
 i173:=by kernel_rfl
 i212:=by kernel_rfl
 i232:=by kernel_rfl
 i233:=by kernel_rfl
 m17:=by kernel_rfl
 m18:=by kernel_rfl
 m19:=by kernel_rfl
def B9(n:Int):Prop:= -9223372036854775808<=n/\n<=9223372036854775807
theorem Zcs(n:Int)(h:B9 n):vS prog uf 77 0 [.int .i64 n] [] [] (uN (.str (itoa n))):=
 ZeH ZkL call77 (g:=2) (by kernel_rfl) (by kernel_rfl) n h.1 h.2
theorem Ba(n:Int)(h:B9 n):vS prog uf 38 0 [.int .i64 n] [] [] (uN (.str (itoa n))):=by
 refine vS.enter Z0 call38 func38 rfl 5 rfl rfl [.tmp 2] rfl ?_;intro w0 F η0 h0;conv=>whnf
 repeat'(first|refine CALL.value (Zcs n h) rfl rfl ?_)<;>conv=>whnf
 exact u0.value h0 rfl rfl
def cU(N:Nat)(t:Tm):Prop:=t.t.length+t.y.length+t.l.length<=N/\B9 t.k
structure Bb(N nc:Nat)(s:Sd):Prop where
 ts:cU N s.q.s
 tp:cU N s.q.p
 to:cU N s.q.o
 tg:cU N s.q.g
 a: -1<=s.a/\s.a< (nc:Int)
 b: -1<=s.b/\s.b< (nc:Int)
 c: -1<=s.c/\s.c< (nc:Int)
 d: -1<=s.d/\s.d< (nc:Int)
def JT(s:LB):LB:=(([61]++itoa (s.length:Int))++ [58])++s
end Go.Proofs.YtlcbipfmodcedaaGreatDoor
namespace Go.Proofs.YtlcbipfmodcedaaGreatDoor
open Go.Sx Go.Our Go.Lib
def oe(cl:List Int)(ins:List (List Sd)):List LB:=(List.range cl.length).map (kI cl ins)
theorem LX(cl:List Int)(ins:List (List Sd)):(oe cl ins).length=cl.length:=by simp[oe]
structure G3(cl:List Int)(ins:List (List Sd)):Prop where
 len:ins.length=cl.length
 cs:∀c∈cl,0<=c/\c<67108864
 sd:∀l∈ins,∀s∈l,Bb 1048576 cl.length s
 few:∀l∈ins,l.length<=4194304
 n:cl.length<=67108864
theorem U4{l:List Int}{k x:Nat}{v:Int}(hk:k=x):(l.map Zg).set k [.int .i64 v]=(l.set x v).map Zg:=by
 subst hk;exact NU Zg l k v
inductive qP(ins:List (List Sd)):List Int->Int->List Int->Int->Prop
 |stop {cl:List Int} {ct:Int} (h:¬ct< ((ZK (oe cl ins)).length:Int)):qP ins cl ct (WE (oe cl ins)) (ZK (oe cl ins)).length
 |go {cl:List Int} {ct:Int} {F:List Int} {c:Int} (h:ct< ((ZK (oe cl ins)).length:Int)) (k:qP ins (WE (oe cl ins)) (ZK (oe cl ins)).length F c):qP ins cl ct F c
theorem qP.Mq{ins:List (List Sd)}{cl:List Int}{ct:Int}{F F':List Int}{c c':Int}(h:qP ins cl ct F c)(h':qP ins cl ct F' c'):F'=F/\c'=c:=by
 induction h with
 |stop hn=>cases h' with
  |stop _=>exact⟨rfl,rfl⟩
  |go hy _=>exact(hn hy).elim
 |go hy _ ih=>cases h' with
  |stop hn=>exact(hn hy).elim
  |go _ k=>exact ih k
theorem G3.next{cl:List Int}{ins:List (List Sd)}(h:G3 cl ins):G3 (WE (oe cl ins)) ins/\(WE (oe cl ins)).length=cl.length/\(ZK (oe cl ins)).length<=cl.length:=by
 have hl:(WE (oe cl ins)).length=cl.length:=by rw[Jm,LX]
 have hf:=C2 (oe cl ins) cl.length;rw[zg (by rw[LX];exact zo _)]at hf;have:=h.n;exact⟨⟨by rw[hl];exact h.len,fun c hc=>by have:=Ml _ c hc;omega,by rw[hl];exact h.sd,h.few,by omega⟩,hl,hf⟩
theorem qP.ok{ins:List (List Sd)}{cl:List Int}{ct:Int}{F:List Int}{c:Int}(h:qP ins cl ct F c):G3 cl ins->G3 F ins/\F.length=cl.length/\(∀x∈F,0<=x/\x<c)/\0<=c/\c<=(cl.length:Int):=by
 induction h with
 |stop _=>exact fun hw=>⟨hw.next.1,hw.next.2.1,fun x hx=>Ml _ x hx,by omega,by have:=hw.next.2.2;omega⟩
 |go _ _ ih=>exact fun hw=>let⟨a,b,c,d,e⟩:=ih hw.next.1;⟨a,b.trans hw.next.2.1,c,d,by rw[hw.next.2.1]at e;exact e⟩
def LY(l:List LB):List DC:=[.uA 1 (l.map Ze)]
def Bd(out:List (List LB)):List (List DC):=out.map LY
theorem LZ:∀out:List (List LB),ZB (Bd out)=true
 | []=>rfl
 |l::out=>by simp only[Bd,zG,LY,ZB,Yr,JN,Zq,zB,xd];exact LZ out
instance {out:List (List LB)}:bu (Bd out):=⟨LZ out⟩
structure R1(l:List Qd):Prop where
 few:l.length<=1048576
 tm:∀q∈l,cU 1048576 q.s/\cU 1048576 q.p/\cU 1048576 q.o/\cU 1048576 q.g
end Go.Proofs.YtlcbipfmodcedaaGreatDoor
