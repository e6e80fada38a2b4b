/- Part 19: IsoSight, IsoJoin, IsoSplit, RIso1, RIso3, RIso4, RIso5, RIso6, IsoCls, IsoFits, IsoRest, IsoFindL, IsoVal, IsoLook2, IsoEven. Conditions: as each part says. -/
import Derived.Lib.ItoaLen
import Derived.Test.YtbfbokdccdagkaaGreatDoorFnd17
import Derived.Test.YtbfbokdccdagkaaGreatDoorFnd18
set_option linter.unusedVariables false
set_option linter.unusedSimpArgs false
set_option maxRecDepth 20000
set_option maxHeartbeats 8000000
namespace Go.Proofs.YtbfbokdccdagkaaGreatDoor
open Go.Sx Go.Our Go.Lib
open Tryz
def X8:Plan:=(Zv [(0,1),(1,1),(2,1),(4,1),(5,1),(6,1),(3,2),(7,2),(8,1),(9,2),(10,3),(11,1),(12,0)])
def Zds:Go.Shelf.Ren:=⟨fun|243=>128|246=>156|283=>179|284=>180|285=>181|286=>182|129=>123|317=>211|318=>212|319=>213|320=>214|337=>237|338=>238|n=>n,fun|3=>3|9=>9|2=>2|4=>4|171=>229|0=>0|53=>104|37=>174|5=>5|173=>231|212=>249|51=>169|20=>20|213=>250|46=>135|232=>272|233=>273|n=>n,fun|17=>1|18=>3|19=>4|n=>n⟩
theorem Zjh:Go.Proofs.LaysM.n243 prog Zds where
 mixed:=by kernel_rfl
 f129:=func123.trans (congrArg some (by kernel_rfl))
 f243:=func128.trans (congrArg some (by kernel_rfl))
 f246:=func156.trans (congrArg some (by kernel_rfl))
 f283:=func179.trans (congrArg some (by kernel_rfl))
 f284:=func180.trans (congrArg some (by kernel_rfl))
 f285:=func181.trans (congrArg some (by kernel_rfl))
 f286:=func182.trans (congrArg some (by kernel_rfl))
 f317:=func211.trans (congrArg some (by kernel_rfl))
 f318:=func212.trans (congrArg some (by kernel_rfl))
 f319:=func213.trans (congrArg some (by kernel_rfl))
 f320:=func214.trans (congrArg some (by kernel_rfl))
 f337:=func237.trans (congrArg some (by kernel_rfl))
 f338:=func238.trans (congrArg some (by kernel_rfl))
 t0:=underlying0
 a0:=isAgg0
 z0:=sizeOf0
 v0:=zeroValue0
 t2:=underlying2
 a2:=isAgg2
 z2:=sizeOf2
 v2:=zeroValue2
 t3:=underlying3
 a3:=isAgg3
 z3:=sizeOf3
 v3:=zeroValue3
 t4:=underlying4
 a4:=isAgg4
 z4:=sizeOf4
 v4:=zeroValue4
 t5:=underlying5
 a5:=isAgg5
 z5:=sizeOf5
 v5:=zeroValue5
 t9:=underlying9
 a9:=isAgg9
 z9:=sizeOf9
 v9:=zeroValue9
 t20:=underlying20
 a20:=isAgg20
 z20:=sizeOf20
 v20:=zeroValue20
 t37:=underlying174
 a37:=isAgg174
 z37:=sizeOf174
 v37:=zeroValue174
 t46:=underlying135
 a46:=isAgg135
 z46:=sizeOf135
 v46:=zeroValue135
 t51:=underlying169
 a51:=isAgg169
 z51:=sizeOf169
 v51:=zeroValue169
 t53:=underlying104
 a53:=isAgg104
 z53:=sizeOf104
 v53:=zeroValue104
 t171:=underlying229
 a171:=isAgg229
 z171:=sizeOf229
 v171:=zeroValue229
 t173:=underlying231
 a173:=isAgg231
 z173:=sizeOf231
 v173:=zeroValue231
 t212:=underlying249
 a212:=isAgg249
 z212:=sizeOf249
 v212:=zeroValue249
 t213:=underlying250
 a213:=isAgg250
 z213:=sizeOf250
 t232:=underlying272
 a232:=isAgg272
 z232:=sizeOf272
 v232:=zeroValue272
 t233:=underlying273
 a233:=isAgg273
 z233:=sizeOf273
 v233:=zeroValue273
 g17:=by kernel_rfl
 g18:=by kernel_rfl
 g19:=by kernel_rfl
 i0:=by kernel_rfl
 i2:=by kernel_rfl
 i3:=by kernel_rfl
 i4:=by kernel_rfl
 i5:=by kernel_rfl
 i9:=by kernel_rfl
 i20:=by kernel_rfl
 i37:=by kernel_rfl
 i46:=by kernel_rfl
 i51:=by kernel_rfl
 i53:=by kernel_rfl
 i171:=by kernel_rfl
 i173:=by kernel_rfl
 i212:=by kernel_rfl
 i232:=by kernel_rfl
 i233:=by kernel_rfl
 m17:=by kernel_rfl
 m18:=by kernel_rfl
 m19:=by kernel_rfl
def I64(n:Int):Prop:= -9223372036854775808<=n/\n<=9223372036854775807
theorem Zbj(n:Int)(h:I64 n):Does prog tab 128 0 [.int .i64 n] [] [] (Val (.str (itoa n))):=
 Zdr Zjh call128 (g:=1) (by kernel_rfl) (by kernel_rfl) n h.1 h.2
theorem Zw(n:Int)(h:I64 n):Does prog tab 98 0 [.int .i64 n] [] [] (Val (.str (itoa n))):=by
 refine Does.enter Z1 call98 func98 rfl 5 rfl rfl [.tmp 2] rfl ?_;intro w0 F η0 h0;conv=>whnf
 repeat'((first|refine CALL.value (Zbj n h) rfl rfl ?_|refine AU ?_|(refine IW ?_ ?_<;>intro h<;>try(exfalso;omega)))<;>conv=>whnf)
 exact FIN.value h0 rfl rfl
theorem ZL{n:Int}(h:I64 n):(itoa n).length<=21:=itoa_length_le n h.1 h.2
def wBx(c nl nc ni ng:Nat)(count:Int):Hp:= .box [.sl (.loc 1) 0 1 nl none, .sl (.loc c) 0 1 nc none, .sl (.loc 3) 0 1 ni none, .sl (.loc 4) 0 1 ng none, .int .i64 count]
def TmOK(N:Nat)(t:Tm):Prop:=t.t.length+t.y.length+t.l.length<=N/\I64 t.k
structure SdOK(N nc:Nat)(s:Sd):Prop where
 ts:TmOK N s.q.s
 tp:TmOK N s.q.p
 to:TmOK N s.q.o
 tg:TmOK N s.q.g
 a: -1<=s.a/\s.a< (nc:Int)
 b: -1<=s.b/\s.b< (nc:Int)
 c: -1<=s.c/\s.c< (nc:Int)
 d: -1<=s.d/\s.d< (nc:Int)
def Z3R(cl:List Int)(x:Nat)(s:Sd):List Seen:=[seeM cl x s.a s.q.s,seeM cl x s.b s.q.p,seeM cl x s.c s.q.o,seeM cl x s.d s.q.g]
def preS(cl:List Int)(x:Nat)(s:Sd)(k:Nat):LB:=(((Z3R cl x s).take k).map VR).flatten
theorem Zdt(cl:List Int)(x:Nat)(s:Sd):preS cl x s 4=Xn (sgM cl x s):=by
 unfold preS Z3R Xn sgM;simp
theorem Z6c{s:LB}{N:Nat}(h:s.length<=N)(hN:N<=1099511627776):(Z1P s).length<=N+23:=by
 unfold Z1P;have:=ZL (n:=(s.length:Int)) ⟨by omega,by omega⟩;simp only[List.length_cons,List.length_append];omega
theorem Z2a{cl:List Int}{x:Nat}{n:Int}{t:Tm}{N:Nat}(ht:TmOK N t)(hN:N<=1099511627776)(hc:∀c∈cl,0<=c/\c<4611686018427387904):(VR (seeM cl x n t)).length<=N+91:=by
 obtain⟨h1,h2⟩:=ht;have a:=Z6c (s:=t.t) (N:=t.t.length) (Nat.le_refl _) (by omega);have b:=Z6c (s:=t.y) (N:=t.y.length) (Nat.le_refl _) (by omega);have c:=Z6c (s:=t.l) (N:=t.l.length) (Nat.le_refl _) (by omega);have d:=ZL h2;unfold seeM VR;split
 ·simp only[Bool.false_eq_true,if_false,Int.lt_irrefl];unfold Zbh;simp only[List.length_append,List.length_singleton];omega
 ·split
  ·simp
  ·have hg:0<=cl.getD n.toNat 0/\cl.getD n.toNat 0<4611686018427387904:=by
    rw[List.getD_eq_getElem?_getD];cases e:cl[n.toNat]? with
    |none=>simp
    |some c=>exact hc c (List.mem_of_getElem? e)
   have:=ZL (n:=1+cl.getD n.toNat 0-1) ⟨by omega,by omega⟩;simp only[Bool.false_eq_true,if_false];rw[if_pos (show 0<1+cl.getD n.toNat 0 by omega)];simp only[List.length_append,List.length_cons,List.length_nil];omega
theorem Z3S{cl:List Int}{x:Nat}{s:Sd}{N:Nat}(hs:SdOK N cl.length s)(hN:N<=1099511627776)(hc:∀c∈cl,0<=c/\c<4611686018427387904){k:Nat}(hk:k<=4):(preS cl x s k).length<=4*(N+91):=by
 have h1:=Z2a (x:=x) (n:=s.a) hs.ts hN hc;have h2:=Z2a (x:=x) (n:=s.b) hs.tp hN hc;have h3:=Z2a (x:=x) (n:=s.c) hs.to hN hc;have h4:=Z2a (x:=x) (n:=s.d) hs.tg hN hc;have hk:k=0\/k=1\/k=2\/k=3\/k=4:=by omega
 rcases hk with rfl|rfl|rfl|rfl|rfl<;>simp[preS,Z3R]<;>omega
theorem Z0s{cl:List Int}{x:Nat}{n:Int}{t:Tm}(h:n=(x:Int)):VR (seeM cl x n t)=[64]++ [32]:=by
 unfold seeM;rw[if_neg (by omega),if_pos h];rfl
theorem Z2b{cl:List Int}{x:Nat}{n:Int}{t:Tm}(hc:∀c∈cl,0<=c/\c<4611686018427387904)(h:¬n=(x:Int))(h2:0<=n)(hn:n.toNat<cl.length):VR (seeM cl x n t)=([35]++itoa cl[n.toNat])++ [32]:=by
 have h3:=(hc _ (List.getElem_mem hn)).1;unfold seeM;rw[if_neg (by omega),if_neg h];unfold VR;simp only[Bool.false_eq_true,if_false];rw[List.getD_eq_getElem?_getD,List.getElem?_eq_getElem hn,Option.getD_some,if_pos (by omega),show 1+cl[n.toNat]-1=cl[n.toNat]by omega]
 rfl
def Zh(s:LB):LB:=(([61]++itoa (s.length:Int))++ [58])++s
theorem Z0t{cl:List Int}{x:Nat}{n:Int}{t:Tm}{out:LB}(h:n<0):out++VR (seeM cl x n t)=((((out++Zh t.t)++Zh t.y)++Zh t.l)++itoa t.k)++ [32]:=by
 unfold seeM;rw[if_pos h];unfold VR Zbh Z1P Zh;simp
theorem YR{s:LB}{N:Nat}(h:s.length<=N)(hN:N<=1099511627776):(Zh s).length<=s.length+23:=by
 unfold Zh;have:=ZL (n:=(s.length:Int)) ⟨by omega,by omega⟩;simp only[List.length_cons,List.length_append,List.length_nil];omega
theorem Zbk(cl:List Int)(x:Nat)(s:Sd)(N:Nat)(hs:SdOK N cl.length s)(hN:N<=1099511627776)(hc:∀c∈cl,0<=c/\c<4611686018427387904)(hcl:cl.length<=4611686018427387904)(nl ni ng:Nat)(ct:Int):
 Does prog tab 97 5 [.ptr (.loc 0) 0 0 0, .int .i64 (x:Int), .agg (XP s)] [] [(0,wBx 2 nl cl.length ni ng ct),(2, .rows 1 (cl.map Zi))] (ValK 5 (.str (Xn (sgM cl x s)))):=by
 refine Does.enter Z1 call97 func97 rfl 71 rfl rfl [.tmp 6] rfl ?_;intro w0 F η0 h0;conv=>whnf
 repeat'((first|refine AU ?_|(refine IW ?_ ?_<;>intro h<;>try(exfalso;omega)))<;>conv=>whnf)
 refine LOOP.gok Z1 [0,1,5,7,13] [5] (X:=Nat) (fun k=>k<=4) (fun k=>[(14, .int .i64 (k:Int))]) (fun k=>[(6, .bld TB TU (preS cl x s k))]) 7 (fun k=>4-k) 0 (by omega) ?_;conv=>whnf
 refine⟨by exact GOES.cA h0,?_⟩;rintro k hk4;conv=>whnf
 refine IF.mk (fun h=>?_) (fun h=>?_)
 ·have hlt:k<4:=by simp at h;omega
  have hkk:k=0\/k=1\/k=2\/k=3:=by omega
  rcases hkk with rfl|rfl|rfl|rfl
  ·have hst:preS cl x s 1=preS cl x s 0++VR (seeM cl x s.a s.q.s):=by simp[preS,Z3R]
   have hol:=Z3S (x:=x) hs hN hc (k:=0) (by omega);obtain⟨hn0,hn1⟩:=hs.a;obtain⟨ht0,ht1⟩:=hs.ts;generalize preS cl x s 0=out at hst hol⊢;generalize s.a=n at hst hn0 hn1⊢;generalize s.q.s=t at hst ht0 ht1⊢;conv=>whnf
   repeat'((first|refine AU ?_|(refine IW ?_ ?_<;>intro h<;>try(exfalso;omega)))<;>conv=>whnf)
   ·have hw:out.length+([64]:LB).length<=140737488355328:=by simp only[List.length_cons,List.length_nil];omega
    refine CALL.aA [6] (Z3 out [64] hw) ?_;rintro r O' nx' ⟨rfl,rfl,rfl⟩;clear hw;have hw:(out++ [64]).length+([32]:LB).length<=140737488355328:=by simp only[List.length_append,List.length_cons,List.length_nil];omega
    conv=>whnf
    repeat'((first|refine AU ?_|(refine IW ?_ ?_<;>intro h<;>try(exfalso;omega)))<;>conv=>whnf)
    refine CALL.aA [6] (Z3 (out++ [64]) [32] hw) ?_;rintro r O' nx' ⟨rfl,rfl,rfl⟩;clear hw;conv=>whnf
    repeat'((first|refine AU ?_|(refine IW ?_ ?_<;>intro h<;>try(exfalso;omega)))<;>conv=>whnf)
    refine⟨1,by omega,by omega,?_⟩;dsimp only;rw[hst,Z0s h,<-List.append_assoc];conv=>whnf
    exact GOES.cA h0
   ·have hnl:n.toNat<cl.length:=by omega
    have hci:=hc _ (List.getElem_mem hnl);have hI:I64 cl[n.toNat]:=⟨by omega,by omega⟩;have hil:=ZL hI;have hg:=Vo hnl;rw[Z2b hc (by assumption) h hnl,<-List.append_assoc]at hst;generalize cl[n.toNat]=c at hci hI hil hg hst⊢;repeat'((first|(show DRAWN _ _ _ _ _ _ _;first|refine DRAWN.of (id:=14) Z1 mixed X8 (by kernel_rfl) ?_)|refine ADD.mk (fun _ _=>?_)|refine AD ?_|refine FORK.mk ?_ ?_|refine CALL.value (Zw c hI) rfl rfl ?_|(refine GET.at (row:=Zi c) (by rw[Nat.zero_add];exact hg) ?_;conv=>whnf)|refine AU ?_|(refine IW ?_ ?_<;>intro h<;>try(exfalso;omega)))<;>conv=>whnf)
    have hw:out.length+([35]++itoa c).length<=140737488355328:=by simp only[List.length_append,List.length_cons,List.length_nil];omega
    refine CALL.aA [6] (Z3 out ([35]++itoa c) hw) ?_;rintro r O' nx' ⟨rfl,rfl,rfl⟩;clear hw;repeat'((first|(show DRAWN _ _ _ _ _ _ _;first|refine DRAWN.of (id:=14) Z1 mixed X8 (by kernel_rfl) ?_)|refine ADD.mk (fun _ _=>?_)|refine AD ?_|refine FORK.mk ?_ ?_|refine AU ?_|(refine IW ?_ ?_<;>intro h<;>try(exfalso;omega)))<;>conv=>whnf)
    have hw:(out++([35]++itoa c)).length+([32]:LB).length<=140737488355328:=by simp only[List.length_append,List.length_cons,List.length_nil];omega
    conv=>whnf
    repeat'((first|refine AU ?_|(refine IW ?_ ?_<;>intro h<;>try(exfalso;omega)))<;>conv=>whnf)
    refine CALL.aA [6] (Z3 (out++([35]++itoa c)) [32] hw) ?_;rintro r O' nx' ⟨rfl,rfl,rfl⟩;clear hw;conv=>whnf
    repeat'((first|refine AU ?_|(refine IW ?_ ?_<;>intro h<;>try(exfalso;omega)))<;>conv=>whnf)
    refine⟨1,by omega,by omega,?_⟩;dsimp only;rw[hst];conv=>whnf
    exact GOES.cA h0
   ·rw[Z0t h]at hst;have h1:=YR (s:=t.t) (N:=N) (by omega) hN;have h2:=YR (s:=t.y) (N:=N) (by omega) hN;have h3:=YR (s:=t.l) (N:=N) (by omega) hN;have hil:=ZL ht1;have hw1:out.length+(Zh t.t).length<=140737488355328:=by omega
    have hw2:(out++Zh t.t).length+(Zh t.y).length<=140737488355328:=by rw[List.length_append];omega
    have hw3:((out++Zh t.t)++Zh t.y).length+(Zh t.l).length<=140737488355328:=by rw[List.length_append,List.length_append];omega
    have hI:I64 (t.t.length:Int):=⟨by omega,by omega⟩;have hq:=ZL hI;repeat'((first|(refine LOOP.once Z1 ?_;conv=>whnf)|refine CALL.value (Zw (t.t.length:Int) hI) rfl rfl ?_|(refine NEED.mk (by simp;omega) ?_;conv=>whnf)|refine AU ?_|(refine IW ?_ ?_<;>intro h<;>try(exfalso;omega)))<;>conv=>whnf)
    clear hI hq;refine CALL.aA [6] (Z3 (out) (Zh t.t) hw1) ?_;rintro r O' nx' ⟨rfl,rfl,rfl⟩;conv=>whnf
    have hI:I64 (t.y.length:Int):=⟨by omega,by omega⟩;have hq:=ZL hI;repeat'((first|(refine LOOP.once Z1 ?_;conv=>whnf)|refine CALL.value (Zw (t.y.length:Int) hI) rfl rfl ?_|(refine NEED.mk (by simp;omega) ?_;conv=>whnf)|refine AU ?_|(refine IW ?_ ?_<;>intro h<;>try(exfalso;omega)))<;>conv=>whnf)
    clear hI hq;refine CALL.aA [6] (Z3 (out++Zh t.t) (Zh t.y) hw2) ?_;rintro r O' nx' ⟨rfl,rfl,rfl⟩;conv=>whnf
    have hI:I64 (t.l.length:Int):=⟨by omega,by omega⟩;have hq:=ZL hI;repeat'((first|(refine LOOP.once Z1 ?_;conv=>whnf)|refine CALL.value (Zw (t.l.length:Int) hI) rfl rfl ?_|(refine NEED.mk (by simp;omega) ?_;conv=>whnf)|refine AU ?_|(refine IW ?_ ?_<;>intro h<;>try(exfalso;omega)))<;>conv=>whnf)
    clear hI hq;refine CALL.aA [6] (Z3 ((out++Zh t.t)++Zh t.y) (Zh t.l) hw3) ?_;rintro r O' nx' ⟨rfl,rfl,rfl⟩;conv=>whnf
    repeat'((first|(refine LOOP.once Z1 ?_;conv=>whnf)|refine CALL.value (Zw t.k ht1) rfl rfl ?_|refine AU ?_|(refine IW ?_ ?_<;>intro h<;>try(exfalso;omega)))<;>conv=>whnf)
    have hw:(((out++Zh t.t)++Zh t.y)++Zh t.l).length+(itoa t.k).length<=140737488355328:=by simp only[List.length_append];omega
    refine CALL.aA [6] (Z3 (((out++Zh t.t)++Zh t.y)++Zh t.l) (itoa t.k) hw) ?_;rintro r O' nx' ⟨rfl,rfl,rfl⟩;clear hw;have hw:((((out++Zh t.t)++Zh t.y)++Zh t.l)++itoa t.k).length+([32]:LB).length<=140737488355328:=by simp only[List.length_append,List.length_cons,List.length_nil];omega
    conv=>whnf
    repeat'((first|refine AU ?_|(refine IW ?_ ?_<;>intro h<;>try(exfalso;omega)))<;>conv=>whnf)
    refine CALL.aA [6] (Z3 ((((out++Zh t.t)++Zh t.y)++Zh t.l)++itoa t.k) [32] hw) ?_;rintro r O' nx' ⟨rfl,rfl,rfl⟩;clear hw;conv=>whnf
    repeat'((first|refine AU ?_|(refine IW ?_ ?_<;>intro h<;>try(exfalso;omega)))<;>conv=>whnf)
    refine⟨1,by omega,by omega,?_⟩;dsimp only;rw[hst];conv=>whnf
    exact GOES.cA h0
  ·have hst:preS cl x s 2=preS cl x s 1++VR (seeM cl x s.b s.q.p):=by simp[preS,Z3R]
   have hol:=Z3S (x:=x) hs hN hc (k:=1) (by omega);obtain⟨hn0,hn1⟩:=hs.b;obtain⟨ht0,ht1⟩:=hs.tp;generalize preS cl x s 1=out at hst hol⊢;generalize s.b=n at hst hn0 hn1⊢;generalize s.q.p=t at hst ht0 ht1⊢;conv=>whnf
   repeat'((first|refine AU ?_|(refine IW ?_ ?_<;>intro h<;>try(exfalso;omega)))<;>conv=>whnf)
   ·have hw:out.length+([64]:LB).length<=140737488355328:=by simp only[List.length_cons,List.length_nil];omega
    refine CALL.aA [6] (Z3 out [64] hw) ?_;rintro r O' nx' ⟨rfl,rfl,rfl⟩;clear hw;have hw:(out++ [64]).length+([32]:LB).length<=140737488355328:=by simp only[List.length_append,List.length_cons,List.length_nil];omega
    conv=>whnf
    repeat'((first|refine AU ?_|(refine IW ?_ ?_<;>intro h<;>try(exfalso;omega)))<;>conv=>whnf)
    refine CALL.aA [6] (Z3 (out++ [64]) [32] hw) ?_;rintro r O' nx' ⟨rfl,rfl,rfl⟩;clear hw;conv=>whnf
    repeat'((first|refine AU ?_|(refine IW ?_ ?_<;>intro h<;>try(exfalso;omega)))<;>conv=>whnf)
    refine⟨2,by omega,by omega,?_⟩;dsimp only;rw[hst,Z0s h,<-List.append_assoc];conv=>whnf
    exact GOES.cA h0
   ·have hnl:n.toNat<cl.length:=by omega
    have hci:=hc _ (List.getElem_mem hnl);have hI:I64 cl[n.toNat]:=⟨by omega,by omega⟩;have hil:=ZL hI;have hg:=Vo hnl;rw[Z2b hc (by assumption) h hnl,<-List.append_assoc]at hst;generalize cl[n.toNat]=c at hci hI hil hg hst⊢;repeat'((first|(show DRAWN _ _ _ _ _ _ _;first|refine DRAWN.of (id:=14) Z1 mixed X8 (by kernel_rfl) ?_)|refine ADD.mk (fun _ _=>?_)|refine AD ?_|refine FORK.mk ?_ ?_|refine CALL.value (Zw c hI) rfl rfl ?_|(refine GET.at (row:=Zi c) (by rw[Nat.zero_add];exact hg) ?_;conv=>whnf)|refine AU ?_|(refine IW ?_ ?_<;>intro h<;>try(exfalso;omega)))<;>conv=>whnf)
    have hw:out.length+([35]++itoa c).length<=140737488355328:=by simp only[List.length_append,List.length_cons,List.length_nil];omega
    refine CALL.aA [6] (Z3 out ([35]++itoa c) hw) ?_;rintro r O' nx' ⟨rfl,rfl,rfl⟩;clear hw;repeat'((first|(show DRAWN _ _ _ _ _ _ _;first|refine DRAWN.of (id:=14) Z1 mixed X8 (by kernel_rfl) ?_)|refine ADD.mk (fun _ _=>?_)|refine AD ?_|refine FORK.mk ?_ ?_|refine AU ?_|(refine IW ?_ ?_<;>intro h<;>try(exfalso;omega)))<;>conv=>whnf)
    have hw:(out++([35]++itoa c)).length+([32]:LB).length<=140737488355328:=by simp only[List.length_append,List.length_cons,List.length_nil];omega
    conv=>whnf
    repeat'((first|refine AU ?_|(refine IW ?_ ?_<;>intro h<;>try(exfalso;omega)))<;>conv=>whnf)
    refine CALL.aA [6] (Z3 (out++([35]++itoa c)) [32] hw) ?_;rintro r O' nx' ⟨rfl,rfl,rfl⟩;clear hw;conv=>whnf
    repeat'((first|refine AU ?_|(refine IW ?_ ?_<;>intro h<;>try(exfalso;omega)))<;>conv=>whnf)
    refine⟨2,by omega,by omega,?_⟩;dsimp only;rw[hst];conv=>whnf
    exact GOES.cA h0
   ·rw[Z0t h]at hst;have h1:=YR (s:=t.t) (N:=N) (by omega) hN;have h2:=YR (s:=t.y) (N:=N) (by omega) hN;have h3:=YR (s:=t.l) (N:=N) (by omega) hN;have hil:=ZL ht1;have hw1:out.length+(Zh t.t).length<=140737488355328:=by omega
    have hw2:(out++Zh t.t).length+(Zh t.y).length<=140737488355328:=by rw[List.length_append];omega
    have hw3:((out++Zh t.t)++Zh t.y).length+(Zh t.l).length<=140737488355328:=by rw[List.length_append,List.length_append];omega
    have hI:I64 (t.t.length:Int):=⟨by omega,by omega⟩;have hq:=ZL hI;repeat'((first|(refine LOOP.once Z1 ?_;conv=>whnf)|refine CALL.value (Zw (t.t.length:Int) hI) rfl rfl ?_|(refine NEED.mk (by simp;omega) ?_;conv=>whnf)|refine AU ?_|(refine IW ?_ ?_<;>intro h<;>try(exfalso;omega)))<;>conv=>whnf)
    clear hI hq;refine CALL.aA [6] (Z3 (out) (Zh t.t) hw1) ?_;rintro r O' nx' ⟨rfl,rfl,rfl⟩;conv=>whnf
    have hI:I64 (t.y.length:Int):=⟨by omega,by omega⟩;have hq:=ZL hI;repeat'((first|(refine LOOP.once Z1 ?_;conv=>whnf)|refine CALL.value (Zw (t.y.length:Int) hI) rfl rfl ?_|(refine NEED.mk (by simp;omega) ?_;conv=>whnf)|refine AU ?_|(refine IW ?_ ?_<;>intro h<;>try(exfalso;omega)))<;>conv=>whnf)
    clear hI hq;refine CALL.aA [6] (Z3 (out++Zh t.t) (Zh t.y) hw2) ?_;rintro r O' nx' ⟨rfl,rfl,rfl⟩;conv=>whnf
    have hI:I64 (t.l.length:Int):=⟨by omega,by omega⟩;have hq:=ZL hI;repeat'((first|(refine LOOP.once Z1 ?_;conv=>whnf)|refine CALL.value (Zw (t.l.length:Int) hI) rfl rfl ?_|(refine NEED.mk (by simp;omega) ?_;conv=>whnf)|refine AU ?_|(refine IW ?_ ?_<;>intro h<;>try(exfalso;omega)))<;>conv=>whnf)
    clear hI hq;refine CALL.aA [6] (Z3 ((out++Zh t.t)++Zh t.y) (Zh t.l) hw3) ?_;rintro r O' nx' ⟨rfl,rfl,rfl⟩;conv=>whnf
    repeat'((first|(refine LOOP.once Z1 ?_;conv=>whnf)|refine CALL.value (Zw t.k ht1) rfl rfl ?_|refine AU ?_|(refine IW ?_ ?_<;>intro h<;>try(exfalso;omega)))<;>conv=>whnf)
    have hw:(((out++Zh t.t)++Zh t.y)++Zh t.l).length+(itoa t.k).length<=140737488355328:=by simp only[List.length_append];omega
    refine CALL.aA [6] (Z3 (((out++Zh t.t)++Zh t.y)++Zh t.l) (itoa t.k) hw) ?_;rintro r O' nx' ⟨rfl,rfl,rfl⟩;clear hw;have hw:((((out++Zh t.t)++Zh t.y)++Zh t.l)++itoa t.k).length+([32]:LB).length<=140737488355328:=by simp only[List.length_append,List.length_cons,List.length_nil];omega
    conv=>whnf
    repeat'((first|refine AU ?_|(refine IW ?_ ?_<;>intro h<;>try(exfalso;omega)))<;>conv=>whnf)
    refine CALL.aA [6] (Z3 ((((out++Zh t.t)++Zh t.y)++Zh t.l)++itoa t.k) [32] hw) ?_;rintro r O' nx' ⟨rfl,rfl,rfl⟩;clear hw;conv=>whnf
    repeat'((first|refine AU ?_|(refine IW ?_ ?_<;>intro h<;>try(exfalso;omega)))<;>conv=>whnf)
    refine⟨2,by omega,by omega,?_⟩;dsimp only;rw[hst];conv=>whnf
    exact GOES.cA h0
  ·have hst:preS cl x s 3=preS cl x s 2++VR (seeM cl x s.c s.q.o):=by simp[preS,Z3R]
   have hol:=Z3S (x:=x) hs hN hc (k:=2) (by omega);obtain⟨hn0,hn1⟩:=hs.c;obtain⟨ht0,ht1⟩:=hs.to;generalize preS cl x s 2=out at hst hol⊢;generalize s.c=n at hst hn0 hn1⊢;generalize s.q.o=t at hst ht0 ht1⊢;conv=>whnf
   repeat'((first|refine AU ?_|(refine IW ?_ ?_<;>intro h<;>try(exfalso;omega)))<;>conv=>whnf)
   ·have hw:out.length+([64]:LB).length<=140737488355328:=by simp only[List.length_cons,List.length_nil];omega
    refine CALL.aA [6] (Z3 out [64] hw) ?_;rintro r O' nx' ⟨rfl,rfl,rfl⟩;clear hw;have hw:(out++ [64]).length+([32]:LB).length<=140737488355328:=by simp only[List.length_append,List.length_cons,List.length_nil];omega
    conv=>whnf
    repeat'((first|refine AU ?_|(refine IW ?_ ?_<;>intro h<;>try(exfalso;omega)))<;>conv=>whnf)
    refine CALL.aA [6] (Z3 (out++ [64]) [32] hw) ?_;rintro r O' nx' ⟨rfl,rfl,rfl⟩;clear hw;conv=>whnf
    repeat'((first|refine AU ?_|(refine IW ?_ ?_<;>intro h<;>try(exfalso;omega)))<;>conv=>whnf)
    refine⟨3,by omega,by omega,?_⟩;dsimp only;rw[hst,Z0s h,<-List.append_assoc];conv=>whnf
    exact GOES.cA h0
   ·have hnl:n.toNat<cl.length:=by omega
    have hci:=hc _ (List.getElem_mem hnl);have hI:I64 cl[n.toNat]:=⟨by omega,by omega⟩;have hil:=ZL hI;have hg:=Vo hnl;rw[Z2b hc (by assumption) h hnl,<-List.append_assoc]at hst;generalize cl[n.toNat]=c at hci hI hil hg hst⊢;repeat'((first|(show DRAWN _ _ _ _ _ _ _;first|refine DRAWN.of (id:=14) Z1 mixed X8 (by kernel_rfl) ?_)|refine ADD.mk (fun _ _=>?_)|refine AD ?_|refine FORK.mk ?_ ?_|refine CALL.value (Zw c hI) rfl rfl ?_|(refine GET.at (row:=Zi c) (by rw[Nat.zero_add];exact hg) ?_;conv=>whnf)|refine AU ?_|(refine IW ?_ ?_<;>intro h<;>try(exfalso;omega)))<;>conv=>whnf)
    have hw:out.length+([35]++itoa c).length<=140737488355328:=by simp only[List.length_append,List.length_cons,List.length_nil];omega
    refine CALL.aA [6] (Z3 out ([35]++itoa c) hw) ?_;rintro r O' nx' ⟨rfl,rfl,rfl⟩;clear hw;repeat'((first|(show DRAWN _ _ _ _ _ _ _;first|refine DRAWN.of (id:=14) Z1 mixed X8 (by kernel_rfl) ?_)|refine ADD.mk (fun _ _=>?_)|refine AD ?_|refine FORK.mk ?_ ?_|refine AU ?_|(refine IW ?_ ?_<;>intro h<;>try(exfalso;omega)))<;>conv=>whnf)
    have hw:(out++([35]++itoa c)).length+([32]:LB).length<=140737488355328:=by simp only[List.length_append,List.length_cons,List.length_nil];omega
    conv=>whnf
    repeat'((first|refine AU ?_|(refine IW ?_ ?_<;>intro h<;>try(exfalso;omega)))<;>conv=>whnf)
    refine CALL.aA [6] (Z3 (out++([35]++itoa c)) [32] hw) ?_;rintro r O' nx' ⟨rfl,rfl,rfl⟩;clear hw;conv=>whnf
    repeat'((first|refine AU ?_|(refine IW ?_ ?_<;>intro h<;>try(exfalso;omega)))<;>conv=>whnf)
    refine⟨3,by omega,by omega,?_⟩;dsimp only;rw[hst];conv=>whnf
    exact GOES.cA h0
   ·rw[Z0t h]at hst;have h1:=YR (s:=t.t) (N:=N) (by omega) hN;have h2:=YR (s:=t.y) (N:=N) (by omega) hN;have h3:=YR (s:=t.l) (N:=N) (by omega) hN;have hil:=ZL ht1;have hw1:out.length+(Zh t.t).length<=140737488355328:=by omega
    have hw2:(out++Zh t.t).length+(Zh t.y).length<=140737488355328:=by rw[List.length_append];omega
    have hw3:((out++Zh t.t)++Zh t.y).length+(Zh t.l).length<=140737488355328:=by rw[List.length_append,List.length_append];omega
    have hI:I64 (t.t.length:Int):=⟨by omega,by omega⟩;have hq:=ZL hI;repeat'((first|(refine LOOP.once Z1 ?_;conv=>whnf)|refine CALL.value (Zw (t.t.length:Int) hI) rfl rfl ?_|(refine NEED.mk (by simp;omega) ?_;conv=>whnf)|refine AU ?_|(refine IW ?_ ?_<;>intro h<;>try(exfalso;omega)))<;>conv=>whnf)
    clear hI hq;refine CALL.aA [6] (Z3 (out) (Zh t.t) hw1) ?_;rintro r O' nx' ⟨rfl,rfl,rfl⟩;conv=>whnf
    have hI:I64 (t.y.length:Int):=⟨by omega,by omega⟩;have hq:=ZL hI;repeat'((first|(refine LOOP.once Z1 ?_;conv=>whnf)|refine CALL.value (Zw (t.y.length:Int) hI) rfl rfl ?_|(refine NEED.mk (by simp;omega) ?_;conv=>whnf)|refine AU ?_|(refine IW ?_ ?_<;>intro h<;>try(exfalso;omega)))<;>conv=>whnf)
    clear hI hq;refine CALL.aA [6] (Z3 (out++Zh t.t) (Zh t.y) hw2) ?_;rintro r O' nx' ⟨rfl,rfl,rfl⟩;conv=>whnf
    have hI:I64 (t.l.length:Int):=⟨by omega,by omega⟩;have hq:=ZL hI;repeat'((first|(refine LOOP.once Z1 ?_;conv=>whnf)|refine CALL.value (Zw (t.l.length:Int) hI) rfl rfl ?_|(refine NEED.mk (by simp;omega) ?_;conv=>whnf)|refine AU ?_|(refine IW ?_ ?_<;>intro h<;>try(exfalso;omega)))<;>conv=>whnf)
    clear hI hq;refine CALL.aA [6] (Z3 ((out++Zh t.t)++Zh t.y) (Zh t.l) hw3) ?_;rintro r O' nx' ⟨rfl,rfl,rfl⟩;conv=>whnf
    repeat'((first|(refine LOOP.once Z1 ?_;conv=>whnf)|refine CALL.value (Zw t.k ht1) rfl rfl ?_|refine AU ?_|(refine IW ?_ ?_<;>intro h<;>try(exfalso;omega)))<;>conv=>whnf)
    have hw:(((out++Zh t.t)++Zh t.y)++Zh t.l).length+(itoa t.k).length<=140737488355328:=by simp only[List.length_append];omega
    refine CALL.aA [6] (Z3 (((out++Zh t.t)++Zh t.y)++Zh t.l) (itoa t.k) hw) ?_;rintro r O' nx' ⟨rfl,rfl,rfl⟩;clear hw;have hw:((((out++Zh t.t)++Zh t.y)++Zh t.l)++itoa t.k).length+([32]:LB).length<=140737488355328:=by simp only[List.length_append,List.length_cons,List.length_nil];omega
    conv=>whnf
    repeat'((first|refine AU ?_|(refine IW ?_ ?_<;>intro h<;>try(exfalso;omega)))<;>conv=>whnf)
    refine CALL.aA [6] (Z3 ((((out++Zh t.t)++Zh t.y)++Zh t.l)++itoa t.k) [32] hw) ?_;rintro r O' nx' ⟨rfl,rfl,rfl⟩;clear hw;conv=>whnf
    repeat'((first|refine AU ?_|(refine IW ?_ ?_<;>intro h<;>try(exfalso;omega)))<;>conv=>whnf)
    refine⟨3,by omega,by omega,?_⟩;dsimp only;rw[hst];conv=>whnf
    exact GOES.cA h0
  ·have hst:preS cl x s 4=preS cl x s 3++VR (seeM cl x s.d s.q.g):=by simp[preS,Z3R]
   have hol:=Z3S (x:=x) hs hN hc (k:=3) (by omega);obtain⟨hn0,hn1⟩:=hs.d;obtain⟨ht0,ht1⟩:=hs.tg;generalize preS cl x s 3=out at hst hol⊢;generalize s.d=n at hst hn0 hn1⊢;generalize s.q.g=t at hst ht0 ht1⊢;conv=>whnf
   repeat'((first|refine AU ?_|(refine IW ?_ ?_<;>intro h<;>try(exfalso;omega)))<;>conv=>whnf)
   ·have hw:out.length+([64]:LB).length<=140737488355328:=by simp only[List.length_cons,List.length_nil];omega
    refine CALL.aA [6] (Z3 out [64] hw) ?_;rintro r O' nx' ⟨rfl,rfl,rfl⟩;clear hw;have hw:(out++ [64]).length+([32]:LB).length<=140737488355328:=by simp only[List.length_append,List.length_cons,List.length_nil];omega
    conv=>whnf
    repeat'((first|refine AU ?_|(refine IW ?_ ?_<;>intro h<;>try(exfalso;omega)))<;>conv=>whnf)
    refine CALL.aA [6] (Z3 (out++ [64]) [32] hw) ?_;rintro r O' nx' ⟨rfl,rfl,rfl⟩;clear hw;conv=>whnf
    repeat'((first|refine AU ?_|(refine IW ?_ ?_<;>intro h<;>try(exfalso;omega)))<;>conv=>whnf)
    refine⟨4,by omega,by omega,?_⟩;dsimp only;rw[hst,Z0s h,<-List.append_assoc];conv=>whnf
    exact GOES.cA h0
   ·have hnl:n.toNat<cl.length:=by omega
    have hci:=hc _ (List.getElem_mem hnl);have hI:I64 cl[n.toNat]:=⟨by omega,by omega⟩;have hil:=ZL hI;have hg:=Vo hnl;rw[Z2b hc (by assumption) h hnl,<-List.append_assoc]at hst;generalize cl[n.toNat]=c at hci hI hil hg hst⊢;repeat'((first|(show DRAWN _ _ _ _ _ _ _;first|refine DRAWN.of (id:=14) Z1 mixed X8 (by kernel_rfl) ?_)|refine ADD.mk (fun _ _=>?_)|refine AD ?_|refine FORK.mk ?_ ?_|refine CALL.value (Zw c hI) rfl rfl ?_|(refine GET.at (row:=Zi c) (by rw[Nat.zero_add];exact hg) ?_;conv=>whnf)|refine AU ?_|(refine IW ?_ ?_<;>intro h<;>try(exfalso;omega)))<;>conv=>whnf)
    have hw:out.length+([35]++itoa c).length<=140737488355328:=by simp only[List.length_append,List.length_cons,List.length_nil];omega
    refine CALL.aA [6] (Z3 out ([35]++itoa c) hw) ?_;rintro r O' nx' ⟨rfl,rfl,rfl⟩;clear hw;repeat'((first|(show DRAWN _ _ _ _ _ _ _;first|refine DRAWN.of (id:=14) Z1 mixed X8 (by kernel_rfl) ?_)|refine ADD.mk (fun _ _=>?_)|refine AD ?_|refine FORK.mk ?_ ?_|refine AU ?_|(refine IW ?_ ?_<;>intro h<;>try(exfalso;omega)))<;>conv=>whnf)
    have hw:(out++([35]++itoa c)).length+([32]:LB).length<=140737488355328:=by simp only[List.length_append,List.length_cons,List.length_nil];omega
    conv=>whnf
    repeat'((first|refine AU ?_|(refine IW ?_ ?_<;>intro h<;>try(exfalso;omega)))<;>conv=>whnf)
    refine CALL.aA [6] (Z3 (out++([35]++itoa c)) [32] hw) ?_;rintro r O' nx' ⟨rfl,rfl,rfl⟩;clear hw;conv=>whnf
    repeat'((first|refine AU ?_|(refine IW ?_ ?_<;>intro h<;>try(exfalso;omega)))<;>conv=>whnf)
    refine⟨4,by omega,by omega,?_⟩;dsimp only;rw[hst];conv=>whnf
    exact GOES.cA h0
   ·rw[Z0t h]at hst;have h1:=YR (s:=t.t) (N:=N) (by omega) hN;have h2:=YR (s:=t.y) (N:=N) (by omega) hN;have h3:=YR (s:=t.l) (N:=N) (by omega) hN;have hil:=ZL ht1;have hw1:out.length+(Zh t.t).length<=140737488355328:=by omega
    have hw2:(out++Zh t.t).length+(Zh t.y).length<=140737488355328:=by rw[List.length_append];omega
    have hw3:((out++Zh t.t)++Zh t.y).length+(Zh t.l).length<=140737488355328:=by rw[List.length_append,List.length_append];omega
    have hI:I64 (t.t.length:Int):=⟨by omega,by omega⟩;have hq:=ZL hI;repeat'((first|(refine LOOP.once Z1 ?_;conv=>whnf)|refine CALL.value (Zw (t.t.length:Int) hI) rfl rfl ?_|(refine NEED.mk (by simp;omega) ?_;conv=>whnf)|refine AU ?_|(refine IW ?_ ?_<;>intro h<;>try(exfalso;omega)))<;>conv=>whnf)
    clear hI hq;refine CALL.aA [6] (Z3 (out) (Zh t.t) hw1) ?_;rintro r O' nx' ⟨rfl,rfl,rfl⟩;conv=>whnf
    have hI:I64 (t.y.length:Int):=⟨by omega,by omega⟩;have hq:=ZL hI;repeat'((first|(refine LOOP.once Z1 ?_;conv=>whnf)|refine CALL.value (Zw (t.y.length:Int) hI) rfl rfl ?_|(refine NEED.mk (by simp;omega) ?_;conv=>whnf)|refine AU ?_|(refine IW ?_ ?_<;>intro h<;>try(exfalso;omega)))<;>conv=>whnf)
    clear hI hq;refine CALL.aA [6] (Z3 (out++Zh t.t) (Zh t.y) hw2) ?_;rintro r O' nx' ⟨rfl,rfl,rfl⟩;conv=>whnf
    have hI:I64 (t.l.length:Int):=⟨by omega,by omega⟩;have hq:=ZL hI;repeat'((first|(refine LOOP.once Z1 ?_;conv=>whnf)|refine CALL.value (Zw (t.l.length:Int) hI) rfl rfl ?_|(refine NEED.mk (by simp;omega) ?_;conv=>whnf)|refine AU ?_|(refine IW ?_ ?_<;>intro h<;>try(exfalso;omega)))<;>conv=>whnf)
    clear hI hq;refine CALL.aA [6] (Z3 ((out++Zh t.t)++Zh t.y) (Zh t.l) hw3) ?_;rintro r O' nx' ⟨rfl,rfl,rfl⟩;conv=>whnf
    repeat'((first|(refine LOOP.once Z1 ?_;conv=>whnf)|refine CALL.value (Zw t.k ht1) rfl rfl ?_|refine AU ?_|(refine IW ?_ ?_<;>intro h<;>try(exfalso;omega)))<;>conv=>whnf)
    have hw:(((out++Zh t.t)++Zh t.y)++Zh t.l).length+(itoa t.k).length<=140737488355328:=by simp only[List.length_append];omega
    refine CALL.aA [6] (Z3 (((out++Zh t.t)++Zh t.y)++Zh t.l) (itoa t.k) hw) ?_;rintro r O' nx' ⟨rfl,rfl,rfl⟩;clear hw;have hw:((((out++Zh t.t)++Zh t.y)++Zh t.l)++itoa t.k).length+([32]:LB).length<=140737488355328:=by simp only[List.length_append,List.length_cons,List.length_nil];omega
    conv=>whnf
    repeat'((first|refine AU ?_|(refine IW ?_ ?_<;>intro h<;>try(exfalso;omega)))<;>conv=>whnf)
    refine CALL.aA [6] (Z3 ((((out++Zh t.t)++Zh t.y)++Zh t.l)++itoa t.k) [32] hw) ?_;rintro r O' nx' ⟨rfl,rfl,rfl⟩;clear hw;conv=>whnf
    repeat'((first|refine AU ?_|(refine IW ?_ ?_<;>intro h<;>try(exfalso;omega)))<;>conv=>whnf)
    refine⟨4,by omega,by omega,?_⟩;dsimp only;rw[hst];conv=>whnf
    exact GOES.cA h0
 ·have hk:k=4:=by simp at h;omega
  subst hk;rw[Zdt];conv=>whnf
  repeat'((first|refine AU ?_|(refine IW ?_ ?_<;>intro h<;>try(exfalso;omega)))<;>conv=>whnf)
  refine CALL.aA [6] (Z3Q (Xn (sgM cl x s))) ?_;rintro r O' nx' ⟨rfl,rfl,rfl⟩;conv=>whnf
  exact FIN.valueK h0 rfl rfl
end Go.Proofs.YtbfbokdccdagkaaGreatDoor
namespace Go.Proofs.YtbfbokdccdagkaaGreatDoor
open Go.Sx Go.Our Go.Lib
open Tryz
def lenS(l:List LB):Nat:=(l.map List.length).sum
theorem Z3T{l:List LB}{i:Nat}(h:i<l.length):lenS (l.take (i+1))=lenS (l.take i)+l[i].length:=by
 unfold lenS;rw[List.take_succ_eq_append_getElem h,List.map_append,List.sum_append_nat];rfl
theorem Z3U(l:List LB)(i:Nat):lenS (l.take i)<=lenS l:=by
 have:lenS l=lenS (l.take i)+lenS (l.drop i):=by unfold lenS;rw[<-List.sum_append_nat,<-List.map_append,List.take_append_drop]
 omega
theorem Z6d(l:List LB):(VB l).length=l.length+lenS l:=by
 induction l with
 |nil=>rfl
 |cons a l ih=>simp only[VB,List.length_cons,List.length_append,ih,lenS,List.map_cons,List.sum_cons];omega
theorem Zdv{l:List LB}{i:Nat}(h:i<l.length):VB (l.take (i+1))=(VB (l.take i)++ [10])++l[i]:=by
 rw[List.take_succ_eq_append_getElem h];generalize l.take i=m
 induction m with
 |nil=>simp[VB]
 |cons a m ih=>simp[VB,ih]
theorem Zfd{n:Nat}(h1:2<=n)(h2:n<=35184372088832):1<IntKind.i64.wrap (Int.tdiv 9223372036854775807 ((n:Int)-1)):=by
 have e:((n:Int)-1)=((n-1:Nat):Int):=by omega
 rw[e,show(9223372036854775807:Int)=((9223372036854775807:Nat):Int)from rfl,<-Int.ofNat_tdiv];have h3:2<=9223372036854775807/ (n-1):=by rw[Nat.le_div_iff_mul_le (by omega)];omega
 have h4:9223372036854775807/ (n-1)<=9223372036854775807:=Nat.div_le_self _ _;rw[Z9 (by omega) (by omega)];omega
theorem Zdw(l:List LB)(hl:(VB l).length<=35184372088832):
 Does prog tab 99 1 [.sl (.loc 0) 0 1 l.length none, .str [10]] [] [(0, .rows 1 (l.map Zb))] (ValK 1 (.str (Wg l))):=by
 rw[Z6d]at hl;by_cases h0':l=[]
 ·subst h0';refine Does.enter Z1 call99 func99 rfl 75 rfl rfl [.tmp 4] rfl ?_;intro w0 F η0 h0;conv=>whnf
  repeat'((first|refine AU ?_|(refine IW ?_ ?_<;>intro h<;>try(exfalso;omega)))<;>conv=>whnf)
  exact FIN.valueK h0 rfl rfl
 by_cases h1':l.length=1
 ·obtain⟨a,rfl⟩:=List.length_eq_one_iff.1 h1';refine Does.enter Z1 call99 func99 rfl 75 rfl rfl [.tmp 4] rfl ?_;intro w0 F η0 h0;conv=>whnf
  repeat'((first|(refine GET.at (row:=Zb a) rfl ?_;conv=>whnf)|refine AU ?_|(refine IW ?_ ?_<;>intro h<;>try(exfalso;omega)))<;>conv=>whnf)
  exact FIN.valueK h0 rfl (congrArg SV.str (by simp[Wg,VB]))
 have h2:2<=l.length:=by
  have:=List.length_pos_iff.2 h0';omega
 have hq:=Zfd h2 (by omega);have hlt0:0<l.length:=by omega
 have hg0:=Z3U l 1;rw[Z3T hlt0,show lenS (l.take 0)=0 from rfl]at hg0;refine Does.enter Z1 call99 func99 rfl 75 rfl rfl [.tmp 4] rfl ?_;intro w0 F η0 h0;conv=>whnf
 repeat'((first|refine AU ?_|(refine IW ?_ ?_<;>intro h<;>try(exfalso;omega)))<;>conv=>whnf)
 refine LOOP.go Z1 [0,1,39,40] (X:=Nat) (fun i=>i<=l.length) (fun i=>[(41, .int .i64 (i:Int)),(5, .int .i64 ((l.length:Int)-1+(lenS (l.take i):Int)))]) (fun _=>[]) 1 (fun i=>l.length-i) 0 (by omega) ?_;conv=>whnf
 refine⟨by rw[show lenS (l.take 0)=0 from rfl];exact GOES.cA h0,?_⟩;intro i hi;have hle:=Z3U l i;conv=>whnf
 by_cases hil:i<l.length
 ·have hst:=Z3T hil;have hle2:=Z3U l (i+1);repeat'((first|(refine GET.at (row:=Zb l[i]) (ZJ hil (by omega)) ?_;conv=>whnf)|refine AU ?_|(refine IW ?_ ?_<;>intro h<;>try(exfalso;omega)))<;>conv=>whnf)
  refine⟨i+1,by omega,by omega,?_⟩;rw[hst];conv=>whnf
  exact GOES.cA h0
 ·have hie:i=l.length:=by omega
  subst hie;rw[List.take_length];have hn:((l.length:Int)-1+(lenS l:Int))=((l.length-1+lenS l:Nat):Int):=by omega
  rw[hn];conv=>whnf
  repeat'((first|refine AU ?_|(refine IW ?_ ?_<;>intro h<;>try(exfalso;omega)))<;>conv=>whnf)
  refine CALL.aA [1] (Zdu (l.length-1+lenS l) (by omega)) ?_;rintro r O' nx' ⟨rfl,rfl,rfl⟩;conv=>whnf
  repeat'((first|(refine GET.at (row:=Zb l[0]) (ZJ hlt0 rfl) ?_;conv=>whnf)|refine AU ?_|(refine IW ?_ ?_<;>intro h<;>try(exfalso;omega)))<;>conv=>whnf)
  have hw:([]:LB).length+l[0].length<=140737488355328:=by simp only[List.length_nil];omega
  refine CALL.aA [1] (Z3 [] l[0] hw) ?_;rintro r O' nx' ⟨rfl,rfl,rfl⟩;clear hw;conv=>whnf
  repeat'((first|refine AU ?_|(refine IW ?_ ?_<;>intro h<;>try(exfalso;omega)))<;>conv=>whnf)
  have hm:l.tail.length=l.length-1:=List.length_tail
  have hml:l[0].length+lenS l.tail<=lenS l:=by
   obtain⟨a,m,rfl⟩:=List.exists_cons_of_ne_nil h0';simp[lenS]
  refine LOOP.gok Z1 [1,8,63,64] [] (X:=Nat) (fun i=>i<=l.tail.length) (fun i=>[(65, .int .i64 (i:Int))]) (fun i=>[(1, .bld TB TU (l[0]++VB (l.tail.take i)))]) 2 (fun i=>l.tail.length-i) 0 (by omega) ?_;conv=>whnf
  refine⟨by rw[show l[0]++VB (l.tail.take 0)=[]++l[0]by simp[VB]];exact GOES.cA h0,?_⟩;intro i hi;have hti:=Z6d (l.tail.take i);have htl:=Z3U l.tail i;rw[List.length_take]at hti;conv=>whnf
  by_cases hil:i<l.tail.length
  ·have hst:=Zdv hil;have hile:=Z3U l.tail (i+1);rw[Z3T hil]at hile
   have hg:(l.map Zb)[i+1]?=some (Zb l.tail[i]):=by
    rw[List.getElem?_map,List.getElem_tail,List.getElem?_eq_getElem (by omega)];rfl
   generalize VB (l.tail.take i)=out at hst hti⊢;generalize l.tail[i]=s at hst hile hg;generalize l[0]=a at hml hst⊢;repeat'((first|(refine GET.at (row:=Zb s) (by rw[<-hg];congr 1;omega) ?_;conv=>whnf)|refine AU ?_|(refine IW ?_ ?_<;>intro h<;>try(exfalso;omega)))<;>conv=>whnf)
   have hw:(a++out).length+([10]:LB).length<=140737488355328:=by simp only[List.length_append,List.length_cons,List.length_nil];omega
   refine CALL.aA [1] (Z3 (a++out) [10] hw) ?_;rintro r O' nx' ⟨rfl,rfl,rfl⟩;clear hw;conv=>whnf
   repeat'((first|refine AU ?_|(refine IW ?_ ?_<;>intro h<;>try(exfalso;omega)))<;>conv=>whnf)
   have hw:((a++out)++ [10]).length+s.length<=140737488355328:=by simp only[List.length_append,List.length_cons,List.length_nil];omega
   refine CALL.aA [1] (Z3 ((a++out)++ [10]) s hw) ?_;rintro r O' nx' ⟨rfl,rfl,rfl⟩;clear hw;conv=>whnf
   repeat'((first|refine AU ?_|(refine IW ?_ ?_<;>intro h<;>try(exfalso;omega)))<;>conv=>whnf)
   refine⟨i+1,by omega,by omega,?_⟩;rw[hst,show a++((out++ [10])++s)=((a++out)++ [10])++s by simp];conv=>whnf
   exact GOES.cA h0
  ·have hie:i=l.tail.length:=by omega
   subst hie;rw[List.take_length];repeat'((first|refine AU ?_|(refine IW ?_ ?_<;>intro h<;>try(exfalso;omega)))<;>conv=>whnf)
   refine CALL.aA [1] (Z3Q (l[0]++VB l.tail)) ?_;rintro r O' nx' ⟨rfl,rfl,rfl⟩;conv=>whnf
   refine FIN.valueK h0 rfl (congrArg SV.str ?_);obtain⟨a,m,rfl⟩:=List.exists_cons_of_ne_nil h0'
   rfl
open Tryz
def Z8S:Plan:=(Zv [(0,1),(2,1),(3,1),(4,1),(1,2),(5,2),(6,1),(7,1)])
def Xa(cl:List Int)(ins:List (List Sd)):List LB:=(List.range cl.length).map (keyM cl ins)
theorem Z2c(cl:List Int)(ins:List (List Sd)):(Xa cl ins).length=cl.length:=by simp[Xa]
theorem Za6{cl:List Int}{ins:List (List Sd)}{x:Nat}(h:x< (Xa cl ins).length):(Xa cl ins)[x]=keyM cl ins x:=by simp[Xa]
theorem Zdz{b:Int}{A B:List LB}:∀{i:Nat},i<=A.length->V7 b (A++B) i=V7 b A i
 |0,_=>rfl
 |i+1,h=>by
  rw[Ue (show i< (A++B).length by rw[List.length_append];omega),Ue (show i<A.length by omega),Zdz (by omega),List.getElem_append_left]
theorem Zfe{b:Int}{A:List LB}{k:LB}:V7 b (A++ [k]) (A++ [k]).length=setA k (b+A.length) (V7 b A A.length):=by
 rw[show(A++ [k]).length=A.length+1 by simp,Ue (by simp),Zdz (Nat.le_refl _)];simp
theorem Z8T{b:Int}{A:List LB}(hn:A.Nodup):∀{i:Nat},i<=A.length->(V7 b A i).length=i
 |0,_=>rfl
 |i+1,h=>by
  rw[Ue (by omega),Z0e]
  ·rw[List.length_append,Z8T hn (by omega)];rfl
  ·have hg:=Z6e (b:=b) hn i A[i] (by omega);rw[hn.idxOf_getElem i (by omega),dif_neg (by omega)]at hg;cases hx:ixA A[i] (V7 b A i)with
   |none=>rfl
   |some p=>obtain⟨j,v⟩:=p;rw[Z1Z hx]at hg;cases hg
def VD(ks:List LB)(n x:Nat):List Int:=(YQ ks).take x++List.replicate (n-x) 0
theorem Z2d{ks:List LB}{n x:Nat}{v:Int}(hk:ks.length=n)(hx:x<n)(hv:(YQ ks)[x]?=some v):(VD ks n x).set x v=VD ks n (x+1):=by
 have hl:((YQ ks).take x).length=x:=by rw[List.length_take,Jf];omega
 unfold VD;rw[List.set_append_right _ _ (by omega),hl,Nat.sub_self,show n-x=(n-(x+1))+1 by omega,List.replicate_succ,List.set_cons_zero];have hx2:x< (YQ ks).length:=by rw[Jf];omega
 rw[List.take_succ_eq_append_getElem hx2,List.append_assoc];rw[List.getElem?_eq_getElem hx2]at hv;injection hv with hv;rw[hv];rfl
theorem Za7{ks:List LB}{n x:Nat}(hk:ks.length=n)(hx:x<=n):(VD ks n x).length=n:=by
 unfold VD;rw[List.length_append,List.length_take,List.length_replicate,Jf];omega
theorem Za8{ks:List LB}{n:Nat}(hk:ks.length=n):VD ks n n=YQ ks:=by
 unfold VD;rw[Nat.sub_self,List.replicate_zero,List.append_nil,List.take_of_length_le (by rw[Jf];omega)]
theorem Zbl{l:List LB}{B:Nat}(h:∀x∈l,x.length<=B):lenS l<=l.length*B:=by
 induction l with
 |nil=>simp[lenS]
 |cons a l ih=>
  have h1:=h a (List.mem_cons_self ..);have h2:=ih fun x hx=>h x (List.mem_cons_of_mem _ hx);simp only[lenS,List.map_cons,List.sum_cons,List.length_cons]at h2⊢;rw[Nat.add_mul];omega
theorem ZdA{cl:List Int}{x:Nat}{s:Sd}{N:Nat}(hs:SdOK N cl.length s)(hN:N<=1099511627776)(hc:∀c∈cl,0<=c/\c<4611686018427387904):(Xn (sgM cl x s)).length<=4*(N+91):=by
 rw[<-Zdt];exact Z3S hs hN hc (Nat.le_refl _)
structure WOK(cl:List Int)(ins:List (List Sd)):Prop where
 len:ins.length=cl.length
 cs:∀c∈cl,0<=c/\c<67108864
 sd:∀l∈ins,∀s∈l,SdOK 1048576 cl.length s
 few:∀l∈ins,l.length<=1048576
 n:cl.length<=67108864
theorem ZdB{cl:List Int}{ins:List (List Sd)}(h:WOK cl ins){x:Nat}(hx:x<ins.length):(JA cl ins x).length=ins[x].length/\(VB (JA cl ins x)).length<=35184372088832:=by
 have hl:(JA cl ins x).length=ins[x].length:=by
  unfold JA Y2;rw[List.length_mergeSort,List.length_map,List.length_map,List.getD_eq_getElem?_getD,List.getElem?_eq_getElem hx,Option.getD_some]
 refine⟨hl,?_⟩;rw[Z6d,hl]
 have hb:=Zbl (l:=JA cl ins x) (B:=4194668) (fun t ht=>by
  have ht:t∈(Y2 cl ins x).map Xn:=(List.mergeSort_perm _ _).mem_iff.1 ht;obtain⟨s,hs,rfl⟩:=List.mem_map.1 ht;unfold Y2 at hs;rw[List.getD_eq_getElem?_getD,List.getElem?_eq_getElem hx,Option.getD_some]at hs;obtain⟨d,hd,rfl⟩:=List.mem_map.1 hs
  exact ZdA (N:=1048576) (h.sd _ (List.getElem_mem hx) d hd) (by omega) (fun c hc=>⟨(h.cs c hc).1,by have:=(h.cs c hc).2;omega⟩))
 rw[hl]at hb;have:=h.few _ (List.getElem_mem hx);omega
theorem Za9{ins:List (List Sd)}{x k:Nat}(h:x<ins.length)(hk:k=x):Z1E (inD ins) k 0=some (k, .kid 20 (ins[x].map XP)):=by
 subst hk;unfold Z1E;rw[Xw h];rfl
theorem VS{l:List Int}{k x:Nat}{v:Int}(hk:k=x):(l.map Zi).set k [.int .i64 v]=(l.set x v).map Zi:=by
 subst hk;exact Z5E Zi l k v
theorem Z8U{ins:List (List Sd)}{x k:Nat}{sv:SV}(h:x<ins.length)(hk:k=x):((inD ins).modify k fun row=>row.set 0 (DC.v sv))[x]?=some [.v sv]:=by
 subst hk;show(setC _ _ _ _)[k]?=_
 rw[ZF,if_pos rfl,Xw h];rfl
theorem Z8V{ins:List (List Sd)}{x k:Nat}{sv:SV}(h:x<ins.length)(hk:k=x):setC ((inD ins).modify k fun row=>row.set 0 (DC.v sv)) x 0 (.kid 20 ((ins[x].map XP).take ins[x].length))=inD ins:=by
 subst hk;show setC (setC _ _ _ _) _ _ _=_
 rw[setC_setC,List.take_of_length_le (by rw[List.length_map];exact Nat.le_refl _)];apply List.ext_getElem?;intro a;rw[ZF];by_cases ha:a=k
 ·subst ha;rw[if_pos rfl,Xw h];rfl
 ·rw[if_neg ha]
theorem Z8W(cl:List Int)(ins:List (List Sd))(nl ng:Nat)(ct:Int)(h:WOK cl ins):
 Does prog tab 69 5 [.ptr (.loc 0) 0 0 0] [(0,wBx 2 nl cl.length ins.length ng ct),(2, .rows 1 (cl.map Zi)),(3, .deep false 1 (inD ins))] []
 (fun r O nx=>r= .bool (decide (ct< ((ZE (Xa cl ins)).length:Int)))/\O=[(0,wBx 5 nl cl.length ins.length ng (ZE (Xa cl ins)).length),(3, .deep false 1 (inD ins)),(5, .rows 1 ((YQ (Xa cl ins)).map Zi))]/\nx=6):=by
 have hln:=h.len;have hn:=h.n;have hkl:=Z2c cl ins;obtain⟨ks,hks⟩:∃ks,ks=Xa cl ins:=⟨_,rfl⟩;rw[<-hks]at hkl⊢
 have hz:(VD ks cl.length 0).map Zi=List.replicate (cl.length:Int).toNat [SV.int .i64 0]:=by
  unfold VD;rw[List.take_zero,List.nil_append,List.map_replicate,Nat.sub_zero,Int.toNat_natCast];rfl
 refine Does.enter Z1 call69 func69 rfl 97 rfl rfl [.tmp 2] rfl ?_;intro w0 F η0 h0;conv=>whnf
 repeat'((first|(refine NEED.mk (Uf 8 rfl (by omega) (by omega) (by omega) (by omega)) ?_;conv=>whnf)|refine AU ?_|(refine IW ?_ ?_<;>intro h<;>try(exfalso;omega)))<;>conv=>whnf)
 rw[<-hz];refine LOOP.gok Z1 [0,3,4,24] [0,2,3] (X:=Nat) (fun x=>x<=cl.length) (fun x=>[(25, .int .i64 (x:Int))]) (fun x=>[(5, .mp (numT (V7 0 (ZE (ks.take x)) (ZE (ks.take x)).length))),(6, .rows 1 ((VD ks cl.length x).map Zi))]) 7 (fun x=>cl.length-x) 0 (by omega) ?_;conv=>whnf
 refine⟨by exact GOES.kA h0 [5,6],?_⟩;intro x hx;conv=>whnf
 refine IF.mk (fun h1=>?_) (fun h1=>?_)
 ·have hlt:x<cl.length:=by simp at h1;omega
  have hxi:x<ins.length:=by omega
  conv=>whnf
  repeat'((first|(refine FINDD.at (Za9 hxi (by omega)) ?_;conv=>whnf)|refine AU ?_|(refine IW ?_ ?_<;>intro h<;>try(exfalso;omega)))<;>conv=>whnf)
  rw[List.length_map];have hfew:=h.few _ (List.getElem_mem hxi);have hsd:=h.sd _ (List.getElem_mem hxi);have htx:=ZdB h hxi;have hsx:Y2 cl ins x=ins[x].map (sgM cl x):=by unfold Y2;rw[List.getD_eq_getElem?_getD,List.getElem?_eq_getElem hxi,Option.getD_some]
  obtain⟨T,hT⟩:∃T,T=(Y2 cl ins x).map Xn:=⟨_,rfl⟩;have hTl:T.length=ins[x].length:=by rw[hT,hsx];simp
  have hTi:∀(i:Nat) (hi:i<T.length),T[i]=Xn (sgM cl x (ins[x][i]'(by omega))):=fun i hi=>by subst hT;simp[hsx]
  refine LOOP.nil 6 1 rfl ?_;refine LOOP.gok Z1 [0,3,4,5,24,25,34,35] [0,2,3,5,6,7] (X:=Nat) (fun i=>i<=ins[x].length) (fun i=>[(36, .int .i64 (i:Int)),(6, .sl (.loc 8) 0 1 i none)]) (fun i=>[(8, .rows 1 ((T.take i).map Zb))]) 9 (fun i=>ins[x].length-i) 0 (by omega) ?_;conv=>whnf
  refine⟨by exact GOES.cA h0,?_⟩;intro i hi;have hti:(T.take i).length=i:=by rw[List.length_take];omega
  conv=>whnf
  refine IF.mk (fun h2=>?_) (fun h2=>?_)
  ·have hil:i<ins[x].length:=by simp at h2;omega
   have hsi:=hsd _ (List.getElem_mem hil);have hsg:=Zbk cl x ins[x][i] 1048576 hsi (by omega) (fun c hc=>⟨(h.cs c hc).1,by have:=(h.cs c hc).2;omega⟩) (by omega) nl ins.length ng ct;rw[<-hTi i (by omega)]at hsg;conv=>whnf
   repeat'((first|(refine GET.at (row:=XP ins[x][i]) (ZJ hil (by omega)) ?_;conv=>whnf)|refine AU ?_|(refine IW ?_ ?_<;>intro h<;>try(exfalso;omega)))<;>conv=>whnf)
   refine CALL.aA [0,1,2,3,4] (hsg) ?_;rintro r O nx ⟨rfl,rfl,rfl⟩;conv=>whnf
   repeat'((first|(refine NEED.mk (ZC 16 rfl rfl rfl (by rw[List.length_map,hti];exact Nat.le_refl _) (by omega)) ?_;conv=>whnf)|refine AU ?_|(refine IW ?_ ?_<;>intro h<;>try(exfalso;omega)))<;>conv=>whnf)
   rw[Z8R T (by omega)];refine⟨i+1,by omega,by omega,?_⟩;conv=>whnf
   exact GOES.kA h0 [5,6,7,11]
  ·have hie:i=T.length:=by simp at h2;omega
   subst hie;rw[List.take_length];conv=>whnf
   repeat'((first|refine AU ?_|(refine IW ?_ ?_<;>intro h<;>try(exfalso;omega)))<;>conv=>whnf)
   refine CALL.aA [8] (Z4V T (by omega)) ?_;rintro r O nx ⟨rfl,rfl,rfl⟩;have hXe:T.mergeSort (leC Our.cmpL)=JA cl ins x:=by rw[hT];rfl
   rw[hXe];have hXl:(JA cl ins x).length=T.length:=by omega
   rw[<-hXl];have hci:=h.cs _ (List.getElem_mem hlt);have hI:I64 cl[x]:=⟨by omega,by omega⟩;have hil:=ZL hI
   have hkx:ks[x]'(by omega)=(itoa cl[x]++ [10])++Wg (JA cl ins x):=by
    subst hks;rw[Za6];unfold keyM;rw[List.getD_eq_getElem?_getD,List.getElem?_eq_getElem hlt,Option.getD_some];simp
   have hjn:=Zdw (JA cl ins x) htx.2
   have hjl:(Wg (JA cl ins x)).length<=35184372088832:=by
    have:=htx.2;revert this;cases JA cl ins x with
    |nil=>simp[Wg]
    |cons a l=>simp only[Wg,VB,List.length_cons,List.length_append];omega
   generalize JA cl ins x=X at hkx hjn hjl hXl⊢;conv=>whnf
   repeat'((first|refine CALL.value (Zw cl[x] hI) rfl rfl ?_|(refine GET.at (row:=Zi cl[x]) (ZJ hlt (by omega)) ?_;conv=>whnf)|(refine NEED.mk (by simp;omega) ?_;conv=>whnf)|refine AU ?_|(refine IW ?_ ?_<;>intro h<;>try(exfalso;omega)))<;>conv=>whnf)
   refine CALL.aA [8] (hjn) ?_;rintro r O nx ⟨rfl,rfl,rfl⟩;conv=>whnf
   repeat'((first|(refine NEED.mk (by simp;omega) ?_;conv=>whnf)|(refine NEED.mk ⟨KT.ok _,Jc KT intV _⟩ ?_;conv=>whnf)|refine AU ?_|(refine IW ?_ ?_<;>intro h<;>try(exfalso;omega)))<;>conv=>whnf)
   have hkl2:x<ks.length:=by omega
   have hfs:=YO ks hkl2;have hold:=Z69 ks hkl2;have hnew:=Z6a ks hkl2;have hFn:=UJ ks x;have hFl:=W7 ks x;rw[hkx]at hfs hold hnew;generalize ZE (ks.take x)=F at hfs hold hnew hFn hFl⊢;have hg:=Z6e (b:=0) hFn F.length ((itoa cl[x]++ [10])++Wg X) (Nat.le_refl _);have hml:(numT (V7 0 F F.length)).length=F.length:=by show(UC KT intV _).length=_;unfold UC;rw[List.length_map,Z8T hFn (Nat.le_refl _)]
   have hnx:x< (VD ks cl.length x).length:=by rw[Za7 hkl hx];exact hlt
   refine FIND.A KT intV ((itoa cl[x]++ [10])++Wg X) (V7 0 F F.length) (fun i v hf=>?_) (fun hf=>?_)
   ·have hm:(itoa cl[x]++ [10])++Wg X∈F:=by
     refine Decidable.byContradiction fun hm=>?_;rw[Z1Z hf,dif_neg (by rw[List.idxOf_lt_length_iff];exact hm)]at hg;cases hg
    have hv:=Z1Z hf;rw[hg,dif_pos (List.idxOf_lt_length_of_mem hm)]at hv;injection hv with hv;rw[Int.zero_add]at hv;have hset:=Z2d hkl hlt (hold hm);rw[if_pos hm]at hfs;subst hv;conv=>whnf
    repeat'((first|(refine GET.at (row:=Zi (VD ks cl.length x)[x]) (ZJ hnx (by omega)) ?_;conv=>whnf)|refine AU ?_|(refine IW ?_ ?_<;>intro h<;>try(exfalso;omega)))<;>conv=>whnf)
    rw[VS (x:=x) (by omega),hset];refine⟨x+1,by omega,by omega,?_⟩;rw[hfs];conv=>whnf
    refine GOES.trans (GHO.goes (GHO.putk 3 x 0 7 rfl (Z8U hxi (by omega)) rfl rfl (by rw[List.length_map];exact Nat.le_refl _) (by decide))) ?_;rw[Z8V hxi (by omega)];exact GOES.kA h0 [5,6]
   ·have hm:(itoa cl[x]++ [10])++Wg X∉F:=fun hm=>by
     rw[Z9I hf,dif_pos (List.idxOf_lt_length_of_mem hm)]at hg;cases hg
    have hset:=Z2d hkl hlt (hnew hm);rw[if_neg hm]at hfs;have hsn:=Zfe (b:=0) (A:=F) (k:=(itoa cl[x]++ [10])++Wg X);rw[Int.zero_add]at hsn;conv=>whnf
    repeat'((first|(refine NEED.mk ⟨KT.ok _,Jc KT intV _⟩ ?_;conv=>whnf)|(refine GET.at (row:=Zi (VD ks cl.length x)[x]) (ZJ hnx (by omega)) ?_;conv=>whnf)|refine AU ?_|(refine IW ?_ ?_<;>intro h<;>try(exfalso;omega)))<;>conv=>whnf)
    first|rw[Zdh]|rw[Zdi]
    rw[hml,<-hsn];rw[VS (x:=x) (by omega),hset];refine⟨x+1,by omega,by omega,?_⟩;rw[hfs];conv=>whnf
    refine GOES.trans (GHO.goes (GHO.putk 3 x 0 7 rfl (Z8U hxi (by omega)) rfl rfl (by rw[List.length_map];exact Nat.le_refl _) (by decide))) ?_;rw[Z8V hxi (by omega)];exact GOES.kA h0 [5,6]
 ·have hxe:x=cl.length:=by simp at h1;omega
  subst hxe;have hF:ks.take cl.length=ks:=List.take_of_length_le (by omega);rw[Za8 hkl,hF];have hFn:=UJ ks cl.length;rw[hF]at hFn;have hml:(numT (V7 0 (ZE ks) (ZE ks).length)).length=(ZE ks).length:=by show(UC KT intV _).length=_;unfold UC;rw[List.length_map,Z8T hFn (Nat.le_refl _)]
  conv=>whnf
  repeat'((first|(show DRAWN _ _ _ _ _ _ _;first|refine DRAWN.of (id:=20) Z1 mixed Z8S (by kernel_rfl) ?_)|refine ADD.mk (fun _ _=>?_)|refine AD ?_|refine FORK.mk ?_ ?_|refine AU ?_|(refine IW ?_ ?_<;>intro h<;>try(exfalso;omega)))<;>conv=>whnf)
  rw[hml];refine FIN.aA h0 [6] (.bool (decide (ct< ((ZE ks).length:Int)))) [(0,wBx 5 nl cl.length ins.length ng (ZE ks).length),(3, .deep false 1 (inD ins)),(5, .rows 1 ((YQ ks).map Zi))] ⟨rfl,rfl,rfl⟩
inductive Settles(ins:List (List Sd)):List Int->Int->List Int->Int->Prop
 |stop {cl:List Int} {ct:Int} (h:¬ct< ((ZE (Xa cl ins)).length:Int)):Settles ins cl ct (YQ (Xa cl ins)) (ZE (Xa cl ins)).length
 |go {cl:List Int} {ct:Int} {F:List Int} {c:Int} (h:ct< ((ZE (Xa cl ins)).length:Int)) (k:Settles ins (YQ (Xa cl ins)) (ZE (Xa cl ins)).length F c):Settles ins cl ct F c
theorem Settles.det{ins:List (List Sd)}{cl:List Int}{ct:Int}{F F':List Int}{c c':Int}(h:Settles ins cl ct F c)(h':Settles ins cl ct F' c'):F'=F/\c'=c:=by
 induction h with
 |stop hn=>cases h' with
  |stop _=>exact⟨rfl,rfl⟩
  |go hy _=>exact(hn hy).elim
 |go hy _ ih=>cases h' with
  |stop hn=>exact(hn hy).elim
  |go _ k=>exact ih k
theorem WOK.next{cl:List Int}{ins:List (List Sd)}(h:WOK cl ins):WOK (YQ (Xa cl ins)) ins/\(YQ (Xa cl ins)).length=cl.length/\(ZE (Xa cl ins)).length<=cl.length:=by
 have hl:(YQ (Xa cl ins)).length=cl.length:=by rw[Jf,Z2c]
 have hf:=W7 (Xa cl ins) cl.length;rw[List.take_of_length_le (by rw[Z2c];exact Nat.le_refl _)]at hf;have:=h.n;exact⟨⟨by rw[hl];exact h.len,fun c hc=>by have:=Z5a _ c hc;omega,by rw[hl];exact h.sd,h.few,by omega⟩,hl,hf⟩
theorem Settles.ok{ins:List (List Sd)}{cl:List Int}{ct:Int}{F:List Int}{c:Int}(h:Settles ins cl ct F c):WOK cl ins->WOK F ins/\F.length=cl.length/\(∀x∈F,0<=x/\x<c)/\0<=c/\c<=(cl.length:Int):=by
 induction h with
 |stop _=>exact fun hw=>⟨hw.next.1,hw.next.2.1,fun x hx=>Z5a _ x hx,by omega,by have:=hw.next.2.2;omega⟩
 |go _ _ ih=>exact fun hw=>let⟨a,b,c,d,e⟩:=ih hw.next.1;⟨a,b.trans hw.next.2.1,c,d,by rw[hw.next.2.1]at e;exact e⟩
theorem Z8X(cl:List Int)(ins:List (List Sd))(nl ng:Nat)(ct:Int)(h:WOK cl ins)(h0':0<=ct):
 Does prog tab 38 5 [.ptr (.loc 0) 0 0 0] [(0,wBx 2 nl cl.length ins.length ng ct),(2, .rows 1 (cl.map Zi)),(3, .deep false 1 (inD ins))] []
 (fun r O nx=>r= .tup []/\∃F c,Settles ins cl ct F c/\O=[(0,wBx 5 nl cl.length ins.length ng c),(3, .deep false 1 (inD ins)),(5, .rows 1 (F.map Zi))]/\nx=6):=by
 refine Does.enter Z1 call38 func38 rfl 4 rfl rfl [] rfl ?_;intro w0 F η0 h0;conv=>whnf
 repeat'((first|refine AU ?_|(refine IW ?_ ?_<;>intro h<;>try(exfalso;omega)))<;>conv=>whnf)
 refine LOOP.gok Z1 [0] [3] (X:=List Int×Int) (fun x=>WOK x.1 ins/\x.1.length=cl.length/\0<=x.2/\∀F c,Settles ins x.1 x.2 F c->Settles ins cl ct F c) (fun x=>[]) (fun x=>[(0,wBx 5 nl cl.length ins.length ng x.2),(5, .rows 1 (x.1.map Zi))]) 6 (fun x=>cl.length-x.2.toNat) (cl,ct) ⟨h,rfl,h0',fun F c hs=>hs⟩ ?_;conv=>whnf
 refine⟨by exact GOES.kA h0 [2],?_⟩;rintro⟨C,k⟩ ⟨hW,hl,hk0,hS⟩;dsimp only at hW hl hk0 hS⊢;have hsp:=Z8W C ins nl ng k hW;rw[hl]at hsp;conv=>whnf
 repeat'((first|refine AU ?_|(refine IW ?_ ?_<;>intro h<;>try(exfalso;omega)))<;>conv=>whnf)
 refine CALL.aA [0,1,5,3,4] (hsp) ?_;rintro r O nx ⟨rfl,rfl,rfl⟩;conv=>whnf
 obtain⟨hW2,hl2,hf2⟩:=hW.next;refine IF.mk (fun h1=>?_) (fun h1=>?_)
 ·have h1:k< ((ZE (Xa C ins)).length:Int):=by simpa using h1
  conv=>whnf
  refine⟨(YQ (Xa C ins),((ZE (Xa C ins)).length:Int)),⟨hW2,by dsimp only;omega,by dsimp only;omega,fun F c hs=>hS F c (.go h1 hs)⟩,by dsimp only;omega,?_⟩;dsimp only;conv=>whnf
  exact GOES.kA h0 [6]
 ·have h1:¬k< ((ZE (Xa C ins)).length:Int):=by simpa using h1
  conv=>whnf
  refine FIN.aA h0 [6] (.tup []) [(0,wBx 5 nl cl.length ins.length ng (ZE (Xa C ins)).length),(3, .deep false 1 (inD ins)),(5, .rows 1 ((YQ (Xa C ins)).map Zi))] ⟨rfl,_,_,hS _ _ (.stop h1),rfl,rfl⟩
end Go.Proofs.YtbfbokdccdagkaaGreatDoor
namespace Go.Proofs.YtbfbokdccdagkaaGreatDoor
open Go.Sx Go.Our
open Tryz
def Z2e:Plan:=(Zv [(0,1),(1,1),(2,1),(3,1),(4,1),(6,1),(7,1),(8,1),(5,2),(9,2),(10,1),(11,1),(12,1)])
def Z2f:Plan:=(.take 0 1 (.take 1 1 (.take 2 1 (.take 4 1 (.take 5 1 (.take 6 1 (.take 8 1 (.take 9 1 (.take 10 1 (.take 12 1 (.take 13 1 (.take 14 1 (.take 11 2 (.take 15 2 (.take 16 1 (.take 17 2 (.take 18 2 (.fork3 3 3 7 3 19 3 (.fork 7 3 19 3 (Zv [(19,3),(20,0),(21,1),(22,0)]) (.fork 7 3 20 0 (Zv [(20,0),(21,1),(22,0)]) (Zv [(7,2),(21,1),(22,0)]))) (.fork 3 3 19 3 (Zv [(19,3),(20,0),(21,1),(22,0)]) (.fork 3 3 20 0 (Zv [(20,0),(21,1),(22,0)]) (Zv [(3,2),(21,1),(22,0)]))) (.fork3 3 3 7 3 20 0 (.fork 7 3 20 0 (Zv [(20,0),(21,1),(22,0)]) (Zv [(7,2),(21,1),(22,0)])) (.fork 3 3 20 0 (Zv [(20,0),(21,1),(22,0)]) (Zv [(3,2),(21,1),(22,0)])) (Zv [(3,2),(7,2),(21,1),(22,0)]))))))))))))))))))))
structure Nd where
 of:Int
 lab:LB
 cls:Int
def Yg(n:Nd):List SV:=[.int .i64 n.of, .str n.lab, .int .i64 n.cls]
instance :PlF Yg:=⟨fun _=>rfl⟩
def Zff(n:Nd)(of:Int)(s:LB):Prop:=n.of<of\/n.of=of/\Z6r n.lab s=true
def ZdC(ns:List Nd)(of:Int)(s:LB)(i:Nat):Prop:=i<=ns.length/\∀m (h:m<ns.length),Zff ns[m] of s<->m<i
def rBx(nn ni:Nat):Hp:= .box [.sl (.loc 1) 0 3 nn none, .sl (.loc 2) 0 1 ni none]
theorem Ug(ns:List Nd)(of:Int)(s:LB)(i ni:Nat)(hp:ZdC ns of s i)(hn:ns.length<=67108864):
 Does prog tab 100 3 [.ptr (.loc 0) 0 0 0, .int .i64 of, .str s] [] [(0,rBx ns.length ni),(1, .rows 3 (ns.map Yg))] (ValK 3 (.int .i64 (i:Int))):=by
 obtain⟨hi,hp⟩:=hp;refine Does.enter Z1 call100 func100 rfl 60 rfl rfl [.tmp 6] rfl ?_;intro w0 F η0 h0;conv=>whnf
 repeat'((first|refine AU ?_|(refine IW ?_ ?_<;>intro h<;>try(exfalso;omega)))<;>conv=>whnf)
 refine LOOP.go Z1 [0,1,2] (X:=Nat×Nat) (fun x=>x.1<=i/\i<=x.2/\x.2<=ns.length) (fun x=>[(7, .int .i64 (x.1:Int)),(8, .int .i64 (x.2:Int))]) (fun _=>[]) 3 (fun x=>x.2-x.1) (0,ns.length) ⟨by simp,by simpa using hi,by simp⟩ ?_;conv=>whnf
 refine⟨by exact GOES.cA h0,?_⟩;rintro⟨lo,hg⟩ ⟨h1,h2,h3⟩;dsimp only at h1 h2 h3;conv=>whnf
 refine IF.mk (fun h=>?_) (fun h=>?_)
 ·have hlt:lo<hg:=by simp at h;omega
  have hm:(lo+hg)/2<ns.length:=by omega
  have hq:Int.tdiv ((lo:Int)+(hg:Int)) 2=(((lo+hg)/2:Nat):Int):=by
   rw[show((lo:Int)+(hg:Int))=((lo+hg:Nat):Int)by omega,show(2:Int)=((2:Nat):Int)from rfl,<-Int.ofNat_tdiv]
  have hw:IntKind.i64.wrap (Int.tdiv (IntKind.i64.wrap ((lo:Int)+(hg:Int))) 2)=(((lo+hg)/2:Nat):Int):=by
   rw[Z9 (a:=(lo:Int)+(hg:Int)) (by omega) (by omega),hq,Z9 (by omega) (by omega)]
  have hpm:=hp _ hm;unfold Zff at hpm;have hgm:=ZJ (f:=Yg) hm rfl;generalize ns[(lo+hg)/2]=nd at hpm hgm;conv=>whnf
  repeat'((first|(refine GET.at (row:=Yg nd) (by rw[hw,Int.toNat_natCast,Nat.zero_add];exact hgm) ?_;conv=>whnf)|(refine GETG.at (row:=Yg nd) (by rw[hw,Int.toNat_natCast,Nat.zero_add];exact hgm) ?_;conv=>whnf)|refine AU ?_|(refine IW ?_ ?_<;>intro h<;>try(exfalso;omega)))<;>conv=>whnf)
  ·have:=hpm.1 h;dsimp only;rw[hw];refine⟨((lo+hg)/2+1,hg),⟨by dsimp only;omega,by dsimp only;omega,by dsimp only;omega⟩,by dsimp only;omega,?_⟩;dsimp only;conv=>whnf
   exact GOES.cA h0
  ·have:¬(lo+hg)/2<i:=fun e=>by
    rcases hpm.2 e with h4|⟨h4,h5⟩
    ·omega
    ·have:=h.2 h4;rw[h5]at this;cases this
   dsimp only;rw[hw];refine⟨(lo,(lo+hg)/2),⟨by dsimp only;omega,by dsimp only;omega,by dsimp only;omega⟩,by dsimp only;omega,?_⟩;dsimp only;conv=>whnf
   exact GOES.cA h0
 ·have hie:lo=i:=by simp at h;omega
  subst hie;conv=>whnf
  repeat'((first|refine AU ?_|(refine IW ?_ ?_<;>intro h<;>try(exfalso;omega)))<;>conv=>whnf)
  exact FIN.valueK h0 rfl rfl
theorem W8(q:Qd):Does prog tab 81 0 [.agg (Zj q)] [] [] (Val (.agg (Zj q))):=by
 refine Does.enter Z1 call81 func81 rfl 12 rfl rfl [.cell 2 93] rfl ?_;intro w0 F η0 h0;conv=>whnf
 repeat'((first|refine AU ?_|(refine IW ?_ ?_<;>intro h<;>try(exfalso;omega)))<;>conv=>whnf)
 exact FIN.weak (fun η w v H hd=>⟨η,List.prefix_rfl,H,Z55 hd⟩) (FIN.value h0 rfl rfl)
structure QX where
 k:Nat
 a:Int
 b:Int
 c:Int
 d:Int
structure QInv(f:LB->Int)(q:Qd)(x:QX):Prop where
 k:x.k<=4
 a:0<x.k->x.a=numM f q.s
 b:1<x.k->x.b=numM f q.p
 c:2<x.k->x.c=numM f q.o
 d:3<x.k->x.d=numM f q.g
def Z6f(ns:List Nd)(of:Int)(f:LB->Int)(n:Nat)(q:Qd):Prop:=∀x∈Yx q,∃i:Nat,f x=(i:Int)/\i<n/\ZdC ns of x i
theorem Vp{ns:List Nd}{of:Int}{f:LB->Int}{n:Nat}{q:Qd}(h:Z6f ns of f n q){t:Tm}(ht:t∈ZG q)(hk:t.k=2):∃i:Nat,f t.t=(i:Int)/\i<n/\ZdC ns of t.t i:=h _ (by
 have hb:t.t∈X3 t:=by unfold X3;rw[if_pos hk];exact List.mem_singleton_self _
 unfold ZG at ht;unfold Yx;simp only[List.mem_cons,List.not_mem_nil,or_false]at ht;simp only[List.mem_append];rcases ht with rfl|rfl|rfl|rfl
 ·exact .inl (.inl (.inl hb))
 ·exact .inl (.inl (.inr hb))
 ·exact .inl (.inr hb)
 ·exact .inr hb)
theorem Z2g{f:LB->Int}{q:Qd}{x:Int}(hx:0<=x):(x∈ownK f q 0<->False)/\(x∈ownK f q 1<->numM f q.s=x)/\(x∈ownK f q 2<->numM f q.s=x\/numM f q.p=x)/\(x∈ownK f q 3<->numM f q.s=x\/numM f q.p=x\/numM f q.o=x):=by
 have step:∀(acc:List Int) (t:Tm),x∈ownT f acc t<->x∈acc\/numM f t=x:=fun acc t=>by
  unfold ownT numM;by_cases hk:t.k=2
  ·rw[if_pos hk,if_pos hk];by_cases hm:f t.t∈acc
   ·rw[if_pos hm];exact⟨.inl,fun h=>h.elim id fun e=>e▸hm⟩
   ·rw[if_neg hm,List.mem_append,List.mem_singleton];exact⟨fun h=>h.imp id Eq.symm,fun h=>h.imp id Eq.symm⟩
  ·rw[if_neg hk,if_neg hk];exact⟨.inl,fun h=>h.elim id fun e=>by omega⟩
 unfold ownK ZG;simp only[List.take_zero,List.take_succ_cons,List.foldl_cons,List.foldl_nil,step,List.not_mem_nil,false_or,or_assoc,and_self,true_and]
theorem Z2h{f:LB->Int}{q:Qd}{k:Nat}(t:Tm)(h:(ZG q)[k]?=some t)(hf:t.k=2->0<=f t.t):ownK f q (k+1)=if 0<=numM f t/\numM f t∉ownK f q k then ownK f q k++ [numM f t]else ownK f q k:=by
 rw[Z0o f q t h];unfold ownT;by_cases hk:t.k=2
 ·rw[Jq hk,if_pos hk];by_cases hm:f t.t∈ownK f q k
  ·rw[if_pos hm,if_neg fun h=>h.2 hm]
  ·rw[if_neg hm,if_pos ⟨hf hk,hm⟩]
 ·rw[VP hk,if_neg hk,if_neg fun h=>absurd h.1 (by decide)]
theorem Z7G(ns:List Nd)(of:Int)(f:LB->Int)(q:Qd)(ins:List (List Sd))(hpl:Z6f ns of f ins.length q)(hns:ns.length<=67108864)(hl:∀l∈ins,l.length<=67108864)(hil:ins.length<=67108864):
 Does prog tab 70 3 [.ptr (.loc 0) 0 0 0, .int .i64 of, .agg (Zj q)] [(2, .deep false 1 (inD ins))] [(0,rBx ns.length ins.length),(1, .rows 3 (ns.map Yg))]
 (fun r O nx=>r= .tup []/\O=[(2, .deep false 1 (inD (putS f ins q)))]/\nx=3):=by
 refine Does.enter Z1 call70 func70 rfl 87 rfl rfl [] rfl ?_;intro w0 F η0 h0;conv=>whnf
 repeat'((first|refine CALL.value (W8 q) rfl rfl ?_|refine AU ?_|(refine IW ?_ ?_<;>intro h<;>try(exfalso;omega)))<;>conv=>whnf)
 refine LOOP.gok Z1 [0,1,6,7] [2,3,4] (X:=QX) (QInv f q) (fun x=>[(8, .int .i64 (x.k:Int))]) (fun x=>[(5, .box (Zit q x.a x.b x.c x.d))]) 6 (fun x=>4-x.k) ⟨0,0,0,0,0⟩ ⟨by simp,by simp,by simp,by simp,by simp⟩ ?_;conv=>whnf
 refine⟨by exact GOES.cA h0,?_⟩;rintro⟨k,a,b,c,d⟩ ⟨hk4,ha,hb,hc,hd⟩;dsimp only at hk4 ha hb hc hd⊢;conv=>whnf
 refine IF.mk (fun h=>?_) (fun h=>?_)
 ·have hlt:k<4:=by simp at h;omega
  have hkk:k=0\/k=1\/k=2\/k=3:=by omega
  rcases hkk with rfl|rfl|rfl|rfl
  ·conv=>whnf
   repeat'((first|refine AU ?_|(refine IW ?_ ?_<;>intro h<;>try(exfalso;omega)))<;>conv=>whnf)
   ·obtain⟨i,hi0,hi1,hi2⟩:=Vp hpl (t:=q.s) (by simp[ZG]) h;have hnd:=Ug ns of q.s.t i ins.length hi2 hns;refine CALL.aA [0,1,2] (hnd) ?_;rintro r O nx ⟨rfl,rfl,rfl⟩;have hv:((i:Nat):Int)=numM f q.s:=by rw[Jq h,hi0]
    rw[hv];conv=>whnf
    repeat'((first|refine AU ?_|(refine IW ?_ ?_<;>intro h<;>try(exfalso;omega)))<;>conv=>whnf)
    refine⟨⟨0+1,numM f q.s,b,c,d⟩,⟨by dsimp only;omega,fun _=>rfl,fun h=>by simp at h,fun h=>by simp at h,fun h=>by simp at h⟩,by dsimp only;omega,?_⟩;conv=>whnf
    exact GOES.cA h0
   ·refine⟨⟨0+1,-1,b,c,d⟩,⟨by dsimp only;omega,fun _=>(VP h).symm,fun h=>by simp at h,fun h=>by simp at h,fun h=>by simp at h⟩,by dsimp only;omega,?_⟩;conv=>whnf
    exact GOES.cA h0
  ·conv=>whnf
   repeat'((first|refine AU ?_|(refine IW ?_ ?_<;>intro h<;>try(exfalso;omega)))<;>conv=>whnf)
   ·obtain⟨i,hi0,hi1,hi2⟩:=Vp hpl (t:=q.p) (by simp[ZG]) h;have hnd:=Ug ns of q.p.t i ins.length hi2 hns;refine CALL.aA [0,1,2] (hnd) ?_;rintro r O nx ⟨rfl,rfl,rfl⟩;have hv:((i:Nat):Int)=numM f q.p:=by rw[Jq h,hi0]
    rw[hv];conv=>whnf
    repeat'((first|refine AU ?_|(refine IW ?_ ?_<;>intro h<;>try(exfalso;omega)))<;>conv=>whnf)
    refine⟨⟨1+1,a,numM f q.p,c,d⟩,⟨by dsimp only;omega,fun _=>ha (by omega),fun _=>rfl,fun h=>by simp at h,fun h=>by simp at h⟩,by dsimp only;omega,?_⟩;conv=>whnf
    exact GOES.cA h0
   ·refine⟨⟨1+1,a,-1,c,d⟩,⟨by dsimp only;omega,fun _=>ha (by omega),fun _=>(VP h).symm,fun h=>by simp at h,fun h=>by simp at h⟩,by dsimp only;omega,?_⟩;conv=>whnf
    exact GOES.cA h0
  ·conv=>whnf
   repeat'((first|refine AU ?_|(refine IW ?_ ?_<;>intro h<;>try(exfalso;omega)))<;>conv=>whnf)
   ·obtain⟨i,hi0,hi1,hi2⟩:=Vp hpl (t:=q.o) (by simp[ZG]) h;have hnd:=Ug ns of q.o.t i ins.length hi2 hns;refine CALL.aA [0,1,2] (hnd) ?_;rintro r O nx ⟨rfl,rfl,rfl⟩;have hv:((i:Nat):Int)=numM f q.o:=by rw[Jq h,hi0]
    rw[hv];conv=>whnf
    repeat'((first|refine AU ?_|(refine IW ?_ ?_<;>intro h<;>try(exfalso;omega)))<;>conv=>whnf)
    refine⟨⟨2+1,a,b,numM f q.o,d⟩,⟨by dsimp only;omega,fun _=>ha (by omega),fun _=>hb (by omega),fun _=>rfl,fun h=>by simp at h⟩,by dsimp only;omega,?_⟩;conv=>whnf
    exact GOES.cA h0
   ·refine⟨⟨2+1,a,b,-1,d⟩,⟨by dsimp only;omega,fun _=>ha (by omega),fun _=>hb (by omega),fun _=>(VP h).symm,fun h=>by simp at h⟩,by dsimp only;omega,?_⟩;conv=>whnf
    exact GOES.cA h0
  ·conv=>whnf
   repeat'((first|refine AU ?_|(refine IW ?_ ?_<;>intro h<;>try(exfalso;omega)))<;>conv=>whnf)
   ·obtain⟨i,hi0,hi1,hi2⟩:=Vp hpl (t:=q.g) (by simp[ZG]) h;have hnd:=Ug ns of q.g.t i ins.length hi2 hns;refine CALL.aA [0,1,2] (hnd) ?_;rintro r O nx ⟨rfl,rfl,rfl⟩;have hv:((i:Nat):Int)=numM f q.g:=by rw[Jq h,hi0]
    rw[hv];conv=>whnf
    repeat'((first|refine AU ?_|(refine IW ?_ ?_<;>intro h<;>try(exfalso;omega)))<;>conv=>whnf)
    refine⟨⟨3+1,a,b,c,numM f q.g⟩,⟨by dsimp only;omega,fun _=>ha (by omega),fun _=>hb (by omega),fun _=>hc (by omega),fun _=>rfl⟩,by dsimp only;omega,?_⟩;conv=>whnf
    exact GOES.cA h0
   ·refine⟨⟨3+1,a,b,c,-1⟩,⟨by dsimp only;omega,fun _=>ha (by omega),fun _=>hb (by omega),fun _=>hc (by omega),fun _=>(VP h).symm⟩,by dsimp only;omega,?_⟩;conv=>whnf
    exact GOES.cA h0
 ·have hk:k=4:=by simp at h;omega
  subst hk;have ha:=ha (by omega);have hb:=hb (by omega);have hc:=hc (by omega);have hd:=hd (by omega);subst ha hb hc hd;clear hk4 h;conv=>whnf
  repeat'((first|refine AU ?_|(refine IW ?_ ?_<;>intro h<;>try(exfalso;omega)))<;>conv=>whnf)
  refine LOOP.gok Z1 [0,7] [3,4,5] (X:=Nat) (fun k=>k<=4) (fun k=>[(9, .int .i64 (k:Int))]) (fun k=>[(2, .deep false 1 (inD ((ownK f q k).foldl (putN (sdM f q)) ins)))]) 6 (fun k=>4-k) 0 (by omega) ?_;conv=>whnf
  refine⟨by exact GOES.cA h0,?_⟩;intro k hk4;conv=>whnf
  refine IF.mk (fun h=>?_) (fun h=>?_)
  ·have hlt:k<4:=by simp at h;omega
   have hkk:k=0\/k=1\/k=2\/k=3:=by omega
   rcases hkk with rfl|rfl|rfl|rfl
   ·have hpt:=fun hk=>Vp hpl (t:=q.s) (by simp[ZG]) hk;have hst:=Z2h (f:=f) (q:=q) (k:=0) q.s rfl (fun hk=>by obtain⟨i,hi,_⟩:=hpt hk;omega);have hmem:=fun h1=>(Z2g (f:=f) (q:=q) (x:=numM f q.s) h1).1
    have hx:0<=numM f q.s->(numM f q.s).toNat<ins.length:=fun h1=>by
     by_cases hk:(q.s).k=2
     ·obtain⟨i,hi,hi2,_⟩:=hpt hk;rw[Jq hk]at h1⊢;omega
     ·rw[VP hk]at h1;omega
    have hIl:=Vg (sdM f q) (ownK f q 0) ins;have hol:=Z0p f q (k:=0) (by omega);have hIb:=J8 (s:=sdM f q) (L:=ownK f q 0) hl;rw[show ownK f q (0+1)=ownK f q 1 from rfl]at hst;generalize hI:(ownK f q 0).foldl (putN (sdM f q)) ins=I at hIl hIb⊢;conv=>whnf
    repeat'((first|(refine LOOP.once Z1 ?_;conv=>whnf)|(show DRAWN _ _ _ _ _ _ _;first|refine DRAWN.of (id:=16) Z1 mixed Z2e (by kernel_rfl) ?_)|refine ADD.mk (fun _ _=>?_)|refine AD ?_|refine FORK.mk ?_ ?_|refine AU ?_|(refine IW ?_ ?_<;>intro h<;>try(exfalso;omega)))<;>conv=>whnf)
    all_goals first
     |(have hst2:ownK f q 1=ownK f q 0:=by
        rw[hst,if_neg];rintro⟨h1,h2⟩
        first|omega|exact h2 ((hmem h1).2 (by omega))
       refine⟨1,by omega,by omega,?_⟩;rw[hst2,hI]
       (conv=>whnf)
       exact GOES.cA h0)
     |(have h1:0<=numM f q.s:=by omega
       have hst2:ownK f q 1=ownK f q 0++ [numM f q.s]:=by
        rw[hst,if_pos ⟨h1,fun h2=>by have h9:=(hmem h1).1 h2;first|exact h9|omega⟩]
       have hnl:(numM f q.s).toNat<I.length:=by rw[hIl];exact hx h1
       have hIn:(List.map XP I[(numM f q.s).toNat]).length<=67108868:=by
        rw[List.length_map];have:=hIb _ (List.getElem_mem hnl);omega
       refine GHO.drawn (GHO.take 2 (numM f q.s).toNat 0 rfl (Xw hnl) rfl) ?_;repeat'((first|(show DRAWN _ _ _ _ _ _ _;first|refine DRAWN.of (id:=18) Z1 mixed Z2f (by kernel_rfl) ?_)|refine ADD.mk (fun _ _=>?_)|refine AD ?_|refine FORK.mk ?_ ?_|(refine GET.at (by rw[Nat.zero_add];exact V3 (Xw hnl)) ?_;conv=>whnf)|(refine FINDD.at (by rw[Nat.zero_add];exact VQ (Xw hnl)) ?_;conv=>whnf)|refine AU ?_|(refine IW ?_ ?_<;>intro h<;>try(exfalso;omega)))<;>conv=>whnf)
       all_goals rw[Z0r hnl (Nat.zero_add _) (s:=sdM f q) (by rw[List.take_of_length_le (by simp),List.take_of_length_le (by simp)];simp[XP,sdM])]
       all_goals refine⟨1,by omega,by omega,?_⟩
       all_goals rw[hst2,List.foldl_append,hI]
       all_goals (conv=>whnf)
       all_goals exact GOES.cA h0)
   ·have hpt:=fun hk=>Vp hpl (t:=q.p) (by simp[ZG]) hk;have hst:=Z2h (f:=f) (q:=q) (k:=1) q.p rfl (fun hk=>by obtain⟨i,hi,_⟩:=hpt hk;omega);have hmem:=fun h1=>(Z2g (f:=f) (q:=q) (x:=numM f q.p) h1).2.1
    have hx:0<=numM f q.p->(numM f q.p).toNat<ins.length:=fun h1=>by
     by_cases hk:(q.p).k=2
     ·obtain⟨i,hi,hi2,_⟩:=hpt hk;rw[Jq hk]at h1⊢;omega
     ·rw[VP hk]at h1;omega
    have hIl:=Vg (sdM f q) (ownK f q 1) ins;have hol:=Z0p f q (k:=1) (by omega);have hIb:=J8 (s:=sdM f q) (L:=ownK f q 1) hl;rw[show ownK f q (1+1)=ownK f q 2 from rfl]at hst;generalize hI:(ownK f q 1).foldl (putN (sdM f q)) ins=I at hIl hIb⊢;conv=>whnf
    repeat'((first|(refine LOOP.once Z1 ?_;conv=>whnf)|(show DRAWN _ _ _ _ _ _ _;first|refine DRAWN.of (id:=16) Z1 mixed Z2e (by kernel_rfl) ?_)|refine ADD.mk (fun _ _=>?_)|refine AD ?_|refine FORK.mk ?_ ?_|refine AU ?_|(refine IW ?_ ?_<;>intro h<;>try(exfalso;omega)))<;>conv=>whnf)
    all_goals first
     |(have hst2:ownK f q 2=ownK f q 1:=by
        rw[hst,if_neg];rintro⟨h1,h2⟩
        first|omega|exact h2 ((hmem h1).2 (by omega))
       refine⟨2,by omega,by omega,?_⟩;rw[hst2,hI]
       (conv=>whnf)
       exact GOES.cA h0)
     |(have h1:0<=numM f q.p:=by omega
       have hst2:ownK f q 2=ownK f q 1++ [numM f q.p]:=by
        rw[hst,if_pos ⟨h1,fun h2=>by have h9:=(hmem h1).1 h2;first|exact h9|omega⟩]
       have hnl:(numM f q.p).toNat<I.length:=by rw[hIl];exact hx h1
       have hIn:(List.map XP I[(numM f q.p).toNat]).length<=67108868:=by
        rw[List.length_map];have:=hIb _ (List.getElem_mem hnl);omega
       refine GHO.drawn (GHO.take 2 (numM f q.p).toNat 0 rfl (Xw hnl) rfl) ?_;repeat'((first|(show DRAWN _ _ _ _ _ _ _;first|refine DRAWN.of (id:=18) Z1 mixed Z2f (by kernel_rfl) ?_)|refine ADD.mk (fun _ _=>?_)|refine AD ?_|refine FORK.mk ?_ ?_|(refine GET.at (by rw[Nat.zero_add];exact V3 (Xw hnl)) ?_;conv=>whnf)|(refine FINDD.at (by rw[Nat.zero_add];exact VQ (Xw hnl)) ?_;conv=>whnf)|refine AU ?_|(refine IW ?_ ?_<;>intro h<;>try(exfalso;omega)))<;>conv=>whnf)
       all_goals rw[Z0r hnl (Nat.zero_add _) (s:=sdM f q) (by rw[List.take_of_length_le (by simp),List.take_of_length_le (by simp)];simp[XP,sdM])]
       all_goals refine⟨2,by omega,by omega,?_⟩
       all_goals rw[hst2,List.foldl_append,hI]
       all_goals (conv=>whnf)
       all_goals exact GOES.cA h0)
   ·have hpt:=fun hk=>Vp hpl (t:=q.o) (by simp[ZG]) hk;have hst:=Z2h (f:=f) (q:=q) (k:=2) q.o rfl (fun hk=>by obtain⟨i,hi,_⟩:=hpt hk;omega);have hmem:=fun h1=>(Z2g (f:=f) (q:=q) (x:=numM f q.o) h1).2.2.1
    have hx:0<=numM f q.o->(numM f q.o).toNat<ins.length:=fun h1=>by
     by_cases hk:(q.o).k=2
     ·obtain⟨i,hi,hi2,_⟩:=hpt hk;rw[Jq hk]at h1⊢;omega
     ·rw[VP hk]at h1;omega
    have hIl:=Vg (sdM f q) (ownK f q 2) ins;have hol:=Z0p f q (k:=2) (by omega);have hIb:=J8 (s:=sdM f q) (L:=ownK f q 2) hl;rw[show ownK f q (2+1)=ownK f q 3 from rfl]at hst;generalize hI:(ownK f q 2).foldl (putN (sdM f q)) ins=I at hIl hIb⊢;conv=>whnf
    repeat'((first|(refine LOOP.once Z1 ?_;conv=>whnf)|(show DRAWN _ _ _ _ _ _ _;first|refine DRAWN.of (id:=16) Z1 mixed Z2e (by kernel_rfl) ?_)|refine ADD.mk (fun _ _=>?_)|refine AD ?_|refine FORK.mk ?_ ?_|refine AU ?_|(refine IW ?_ ?_<;>intro h<;>try(exfalso;omega)))<;>conv=>whnf)
    all_goals first
     |(have hst2:ownK f q 3=ownK f q 2:=by
        rw[hst,if_neg];rintro⟨h1,h2⟩
        first|omega|exact h2 ((hmem h1).2 (by omega))
       refine⟨3,by omega,by omega,?_⟩;rw[hst2,hI]
       (conv=>whnf)
       exact GOES.cA h0)
     |(have h1:0<=numM f q.o:=by omega
       have hst2:ownK f q 3=ownK f q 2++ [numM f q.o]:=by
        rw[hst,if_pos ⟨h1,fun h2=>by have h9:=(hmem h1).1 h2;first|exact h9|omega⟩]
       have hnl:(numM f q.o).toNat<I.length:=by rw[hIl];exact hx h1
       have hIn:(List.map XP I[(numM f q.o).toNat]).length<=67108868:=by
        rw[List.length_map];have:=hIb _ (List.getElem_mem hnl);omega
       refine GHO.drawn (GHO.take 2 (numM f q.o).toNat 0 rfl (Xw hnl) rfl) ?_;repeat'((first|(show DRAWN _ _ _ _ _ _ _;first|refine DRAWN.of (id:=18) Z1 mixed Z2f (by kernel_rfl) ?_)|refine ADD.mk (fun _ _=>?_)|refine AD ?_|refine FORK.mk ?_ ?_|(refine GET.at (by rw[Nat.zero_add];exact V3 (Xw hnl)) ?_;conv=>whnf)|(refine FINDD.at (by rw[Nat.zero_add];exact VQ (Xw hnl)) ?_;conv=>whnf)|refine AU ?_|(refine IW ?_ ?_<;>intro h<;>try(exfalso;omega)))<;>conv=>whnf)
       all_goals rw[Z0r hnl (Nat.zero_add _) (s:=sdM f q) (by rw[List.take_of_length_le (by simp),List.take_of_length_le (by simp)];simp[XP,sdM])]
       all_goals refine⟨3,by omega,by omega,?_⟩
       all_goals rw[hst2,List.foldl_append,hI]
       all_goals (conv=>whnf)
       all_goals exact GOES.cA h0)
   ·have hpt:=fun hk=>Vp hpl (t:=q.g) (by simp[ZG]) hk;have hst:=Z2h (f:=f) (q:=q) (k:=3) q.g rfl (fun hk=>by obtain⟨i,hi,_⟩:=hpt hk;omega);have hmem:=fun h1=>(Z2g (f:=f) (q:=q) (x:=numM f q.g) h1).2.2.2
    have hx:0<=numM f q.g->(numM f q.g).toNat<ins.length:=fun h1=>by
     by_cases hk:(q.g).k=2
     ·obtain⟨i,hi,hi2,_⟩:=hpt hk;rw[Jq hk]at h1⊢;omega
     ·rw[VP hk]at h1;omega
    have hIl:=Vg (sdM f q) (ownK f q 3) ins;have hol:=Z0p f q (k:=3) (by omega);have hIb:=J8 (s:=sdM f q) (L:=ownK f q 3) hl;rw[show ownK f q (3+1)=ownK f q 4 from rfl]at hst;generalize hI:(ownK f q 3).foldl (putN (sdM f q)) ins=I at hIl hIb⊢;conv=>whnf
    repeat'((first|(refine LOOP.once Z1 ?_;conv=>whnf)|(show DRAWN _ _ _ _ _ _ _;first|refine DRAWN.of (id:=16) Z1 mixed Z2e (by kernel_rfl) ?_)|refine ADD.mk (fun _ _=>?_)|refine AD ?_|refine FORK.mk ?_ ?_|refine AU ?_|(refine IW ?_ ?_<;>intro h<;>try(exfalso;omega)))<;>conv=>whnf)
    all_goals first
     |(have hst2:ownK f q 4=ownK f q 3:=by
        rw[hst,if_neg];rintro⟨h1,h2⟩
        first|omega|exact h2 ((hmem h1).2 (by omega))
       refine⟨4,by omega,by omega,?_⟩;rw[hst2,hI]
       (conv=>whnf)
       exact GOES.cA h0)
     |(have h1:0<=numM f q.g:=by omega
       have hst2:ownK f q 4=ownK f q 3++ [numM f q.g]:=by
        rw[hst,if_pos ⟨h1,fun h2=>by have h9:=(hmem h1).1 h2;first|exact h9|omega⟩]
       have hnl:(numM f q.g).toNat<I.length:=by rw[hIl];exact hx h1
       have hIn:(List.map XP I[(numM f q.g).toNat]).length<=67108868:=by
        rw[List.length_map];have:=hIb _ (List.getElem_mem hnl);omega
       refine GHO.drawn (GHO.take 2 (numM f q.g).toNat 0 rfl (Xw hnl) rfl) ?_;repeat'((first|(show DRAWN _ _ _ _ _ _ _;first|refine DRAWN.of (id:=18) Z1 mixed Z2f (by kernel_rfl) ?_)|refine ADD.mk (fun _ _=>?_)|refine AD ?_|refine FORK.mk ?_ ?_|(refine GET.at (by rw[Nat.zero_add];exact V3 (Xw hnl)) ?_;conv=>whnf)|(refine FINDD.at (by rw[Nat.zero_add];exact VQ (Xw hnl)) ?_;conv=>whnf)|refine AU ?_|(refine IW ?_ ?_<;>intro h<;>try(exfalso;omega)))<;>conv=>whnf)
       all_goals rw[Z0r hnl (Nat.zero_add _) (s:=sdM f q) (by rw[List.take_of_length_le (by simp),List.take_of_length_le (by simp)];simp[XP,sdM])]
       all_goals refine⟨4,by omega,by omega,?_⟩
       all_goals rw[hst2,List.foldl_append,hI]
       all_goals (conv=>whnf)
       all_goals exact GOES.cA h0)
  ·have hk:k=4:=by simp at h;omega
   subst hk;conv=>whnf
   repeat'((first|refine AU ?_|(refine IW ?_ ?_<;>intro h<;>try(exfalso;omega)))<;>conv=>whnf)
   refine FIN.aA h0 [] (.tup []) [(2, .deep false 1 (inD (putS f ins q)))] ⟨rfl,rfl,rfl⟩
open Tryz
def Z2i:Plan:=(Zv [(0,1),(1,1),(2,1),(3,1),(5,1),(6,1),(7,1),(4,2),(8,2),(9,1),(10,1),(11,2),(12,1),(13,1),(14,1),(15,0)])
def UK(s:Seen):List SV:=[.bool s.self, .int .i64 s.cls, .int .i64 s.tm.k, .str s.tm.t, .str s.tm.y, .str s.tm.l]
def VT(s:Sg):List SV:=UK s.a++(UK s.b++(UK s.c++UK s.d))
theorem ZdD(l:List Sg):Zp (l.map VT)=true:=ZQ _ (fun _=>rfl) l
instance :PlF VT:=⟨fun _=>rfl⟩
def Js:Seen:=⟨false,0,Zx⟩
structure SX where
 k:Nat
 a:Seen
 b:Seen
 c:Seen
 d:Seen
structure SInv(cl:List Int)(x:Nat)(s:Sd)(y:SX):Prop where
 k:y.k<=4
 a:y.a=if 0<y.k then seeM cl x s.a s.q.s else Js
 b:y.b=if 1<y.k then seeM cl x s.b s.q.p else Js
 c:y.c=if 2<y.k then seeM cl x s.c s.q.o else Js
 d:y.d=if 3<y.k then seeM cl x s.d s.q.g else Js
theorem Zfg{cl:List Int}{x:Nat}{n:Int}{t:Tm}(h:n<0):seeM cl x n t=⟨false,0,t⟩:=by unfold seeM;rw[if_pos h]
theorem Zfh{cl:List Int}{x:Nat}{n:Int}{t:Tm}(h:n=(x:Int)):seeM cl x n t=⟨true,0,Zx⟩:=by unfold seeM;rw[if_neg (by omega),if_pos h]
theorem Zfi{ns:List Nd}{x:Nat}{n:Int}{t:Tm}(h:0<=n)(h2:¬n=(x:Int))(h3:n.toNat<ns.length):seeM (ns.map Nd.cls) x n t=⟨false,1+ns[n.toNat].cls,Zx⟩:=by
 unfold seeM;rw[if_neg (by omega),if_neg h2,List.getD_eq_getElem?_getD,List.getElem?_map,List.getElem?_eq_getElem h3];rfl
theorem Zfj{ins:List (List Sd)}{x:Nat}{sv:SV}(h:x<ins.length):setC (setC (inD ins) x 0 (DC.v sv)) x 0 (.kid 20 ((ins[x].map XP).take ins[x].length))=inD ins:=Z8V h rfl
theorem Ziz(T:List Sg)(a b c d:Seen){n:Nat}(hn:n=T.length):List.take n (T.map VT)++List.take 1 (List.drop 0 [[SV.bool a.self, .int .i64 a.cls, .int .i64 a.tm.k, .str a.tm.t, .str a.tm.y, .str a.tm.l,SV.bool b.self, .int .i64 b.cls, .int .i64 b.tm.k, .str b.tm.t, .str b.tm.y, .str b.tm.l,SV.bool c.self, .int .i64 c.cls, .int .i64 c.tm.k, .str c.tm.t, .str c.tm.y, .str c.tm.l,SV.bool d.self, .int .i64 d.cls, .int .i64 d.tm.k, .str d.tm.t, .str d.tm.y, .str d.tm.l]])=(T++ [Sg.mk a b c d]).map VT:=by
 subst hn;rw[List.take_of_length_le (by simp),List.map_append]
 rfl
theorem Z7H(ns:List Nd)(ins:List (List Sd))(x:Nat)(hW:WOK (ns.map Nd.cls) ins)(hx:x<ins.length):
 Does prog tab 102 3 [.ptr (.loc 0) 0 0 0, .int .i64 (x:Int)] [(2, .deep false 1 (inD ins))] [(0,rBx ns.length ins.length),(1, .rows 3 (ns.map Yg))]
 (fun r O nx=>r= .sl (.loc 3) 0 24 ins[x].length none/\O=[(2, .deep false 1 (inD ins)),(3, .rows 24 ((Y2 (ns.map Nd.cls) ins x).map VT))]/\nx=4):=by
 have hfew:=hW.few _ (List.getElem_mem hx);have hsd:=hW.sd _ (List.getElem_mem hx);have hsx:Y2 (ns.map Nd.cls) ins x=ins[x].map (sgM (ns.map Nd.cls) x):=by unfold Y2;rw[List.getD_eq_getElem?_getD,List.getElem?_eq_getElem hx,Option.getD_some]
 rw[List.length_map]at hsd;rw[hsx];refine Does.enter Z1 call102 func102 rfl 82 rfl rfl [.tmp 4] rfl ?_;intro w0 F η0 h0;conv=>whnf
 repeat'((first|refine AU ?_|(refine IW ?_ ?_<;>intro h<;>try(exfalso;omega)))<;>conv=>whnf)
 refine GHO.loop (GHO.take 2 x 0 rfl (Xw hx) rfl) (LOOP.nil 5 24 rfl ?_);rw[List.length_map];refine LOOP.gok Z1 [0,1] [2,3] (X:=Nat) (fun i=>i<=ins[x].length) (fun i=>[(6, .int .i64 (i:Int)),(5, .sl (.loc 4) 0 24 i none)]) (fun i=>[(4, .rows 24 (((ins[x].take i).map (sgM (ns.map Nd.cls) x)).map VT))]) 5 (fun i=>ins[x].length-i) 0 (by omega) ?_;conv=>whnf
 refine⟨by exact GOES.cA h0,?_⟩;intro i hi;conv=>whnf
 repeat'((first|(refine FINDD.at (by rw[Nat.zero_add,Int.toNat_natCast];exact VQ (Xw hx)) ?_;conv=>whnf)|refine AU ?_|(refine IW ?_ ?_<;>intro h<;>try(exfalso;omega)))<;>conv=>whnf)
 ·have hil:i<ins[x].length:=by omega
  have hs:=hsd _ (List.getElem_mem hil);have hgs:=ZJ (f:=XP) hil rfl;have hst:(ins[x].take (i+1)).map (sgM (ns.map Nd.cls) x)=(ins[x].take i).map (sgM (ns.map Nd.cls) x)++ [sgM (ns.map Nd.cls) x ins[x][i]]:=by rw[List.take_succ_eq_append_getElem hil,List.map_append];rfl
  have hTl:((ins[x].take i).map (sgM (ns.map Nd.cls) x)).length=i:=by rw[List.length_map,List.length_take];omega
  generalize(ins[x].take i).map (sgM (ns.map Nd.cls) x)=T at hst hTl⊢;generalize ins[x][i]=s at hs hgs hst⊢;repeat'((first|refine CALL.value (W8 s.q) rfl rfl ?_|(refine GET.at (row:=XP s) (by rw[Int.toNat_natCast,Nat.zero_add];exact hgs) ?_;conv=>whnf)|refine AU ?_|(refine IW ?_ ?_<;>intro h<;>try(exfalso;omega)))<;>conv=>whnf)
  refine LOOP.gok Z1 [0,1,5,6,7,8,9] [2,3,4,5,6] (X:=SX) (SInv (ns.map Nd.cls) x s) (fun y=>[(10, .int .i64 (y.k:Int))]) (fun y=>[(7, .rows 6 [UK y.a,UK y.b,UK y.c,UK y.d])]) 8 (fun y=>4-y.k) ⟨0,Js,Js,Js,Js⟩ ⟨by simp,rfl,rfl,rfl,rfl⟩ ?_;conv=>whnf
  refine⟨by exact GOES.cA h0,?_⟩;rintro⟨k,a,b,c,d⟩ ⟨hk4,ha,hb,hc,hd⟩;dsimp only at hk4 ha hb hc hd⊢;conv=>whnf
  refine IF.mk (fun h1=>?_) (fun h1=>?_)
  ·have hlt:k<4:=by simp at h1;omega
   have hkk:k=0\/k=1\/k=2\/k=3:=by omega
   rcases hkk with rfl|rfl|rfl|rfl
   ·obtain⟨hn0,hn1⟩:=hs.a;simp at ha hb hc hd;subst ha hb hc hd;conv=>whnf
    repeat'((first|refine AU ?_|(refine IW ?_ ?_<;>intro h<;>try(exfalso;omega)))<;>conv=>whnf)
    ·have hv:=(Zfg (cl:=ns.map Nd.cls) (x:=x) (n:=s.a) (t:=s.q.s) h).symm;refine⟨⟨0+1,⟨false,0,s.q.s⟩,Js,Js,Js⟩,⟨by dsimp only;omega,by simpa using hv,by simp,by simp,by simp⟩,by dsimp only;omega,?_⟩;dsimp only;conv=>whnf
     exact GOES.cA h0
    ·have hv:=(Zfh (cl:=ns.map Nd.cls) (t:=s.q.s) h).symm;refine⟨⟨0+1,⟨true,0,Zx⟩,Js,Js,Js⟩,⟨by dsimp only;omega,by simpa using hv,by simp,by simp,by simp⟩,by dsimp only;omega,?_⟩;dsimp only;conv=>whnf
     exact GOES.cA h0
    ·have hnl:(s.a).toNat<ns.length:=by omega
     have hc':=hW.cs _ (List.mem_map_of_mem (f:=Nd.cls) (List.getElem_mem hnl));have hgn:=ZJ (f:=Yg) hnl rfl;have hv:=(Zfi (ns:=ns) (x:=x) (t:=s.q.s) (by omega) h hnl).symm;generalize ns[(s.a).toNat]=nd at hc' hgn hv;have hwc:IntKind.i64.wrap (1+nd.cls)=1+nd.cls:=Z9 (by omega) (by omega);repeat'((first|(show DRAWN _ _ _ _ _ _ _;first|refine DRAWN.of (id:=11) Z1 mixed Z2i (by kernel_rfl) ?_)|refine ADD.mk (fun _ _=>?_)|refine AD ?_|refine FORK.mk ?_ ?_|(refine GET.at (row:=Yg nd) (by rw[Nat.zero_add];exact hgn) ?_;conv=>whnf)|refine AU ?_|(refine IW ?_ ?_<;>intro h<;>try(exfalso;omega)))<;>conv=>whnf)
     all_goals rw[hwc]
     all_goals refine⟨⟨0+1,⟨false,1+nd.cls,Zx⟩,Js,Js,Js⟩,⟨by dsimp only;omega,by simpa using hv,by simp,by simp,by simp⟩,by dsimp only;omega,?_⟩
     all_goals dsimp only
     all_goals (conv=>whnf)
     all_goals exact GOES.cA h0
   ·obtain⟨hn0,hn1⟩:=hs.b;simp at ha hb hc hd;subst hb hc hd;conv=>whnf
    repeat'((first|refine AU ?_|(refine IW ?_ ?_<;>intro h<;>try(exfalso;omega)))<;>conv=>whnf)
    ·have hv:=(Zfg (cl:=ns.map Nd.cls) (x:=x) (n:=s.b) (t:=s.q.p) h).symm;refine⟨⟨1+1,a,⟨false,0,s.q.p⟩,Js,Js⟩,⟨by dsimp only;omega,by simpa using ha,by simpa using hv,by simp,by simp⟩,by dsimp only;omega,?_⟩;dsimp only;conv=>whnf
     exact GOES.cA h0
    ·have hv:=(Zfh (cl:=ns.map Nd.cls) (t:=s.q.p) h).symm;refine⟨⟨1+1,a,⟨true,0,Zx⟩,Js,Js⟩,⟨by dsimp only;omega,by simpa using ha,by simpa using hv,by simp,by simp⟩,by dsimp only;omega,?_⟩;dsimp only;conv=>whnf
     exact GOES.cA h0
    ·have hnl:(s.b).toNat<ns.length:=by omega
     have hc':=hW.cs _ (List.mem_map_of_mem (f:=Nd.cls) (List.getElem_mem hnl));have hgn:=ZJ (f:=Yg) hnl rfl;have hv:=(Zfi (ns:=ns) (x:=x) (t:=s.q.p) (by omega) h hnl).symm;generalize ns[(s.b).toNat]=nd at hc' hgn hv;have hwc:IntKind.i64.wrap (1+nd.cls)=1+nd.cls:=Z9 (by omega) (by omega);repeat'((first|(show DRAWN _ _ _ _ _ _ _;first|refine DRAWN.of (id:=11) Z1 mixed Z2i (by kernel_rfl) ?_)|refine ADD.mk (fun _ _=>?_)|refine AD ?_|refine FORK.mk ?_ ?_|(refine GET.at (row:=Yg nd) (by rw[Nat.zero_add];exact hgn) ?_;conv=>whnf)|refine AU ?_|(refine IW ?_ ?_<;>intro h<;>try(exfalso;omega)))<;>conv=>whnf)
     all_goals rw[hwc]
     all_goals refine⟨⟨1+1,a,⟨false,1+nd.cls,Zx⟩,Js,Js⟩,⟨by dsimp only;omega,by simpa using ha,by simpa using hv,by simp,by simp⟩,by dsimp only;omega,?_⟩
     all_goals dsimp only
     all_goals (conv=>whnf)
     all_goals exact GOES.cA h0
   ·obtain⟨hn0,hn1⟩:=hs.c;simp at ha hb hc hd;subst hc hd;conv=>whnf
    repeat'((first|refine AU ?_|(refine IW ?_ ?_<;>intro h<;>try(exfalso;omega)))<;>conv=>whnf)
    ·have hv:=(Zfg (cl:=ns.map Nd.cls) (x:=x) (n:=s.c) (t:=s.q.o) h).symm;refine⟨⟨2+1,a,b,⟨false,0,s.q.o⟩,Js⟩,⟨by dsimp only;omega,by simpa using ha,by simpa using hb,by simpa using hv,by simp⟩,by dsimp only;omega,?_⟩;dsimp only;conv=>whnf
     exact GOES.cA h0
    ·have hv:=(Zfh (cl:=ns.map Nd.cls) (t:=s.q.o) h).symm;refine⟨⟨2+1,a,b,⟨true,0,Zx⟩,Js⟩,⟨by dsimp only;omega,by simpa using ha,by simpa using hb,by simpa using hv,by simp⟩,by dsimp only;omega,?_⟩;dsimp only;conv=>whnf
     exact GOES.cA h0
    ·have hnl:(s.c).toNat<ns.length:=by omega
     have hc':=hW.cs _ (List.mem_map_of_mem (f:=Nd.cls) (List.getElem_mem hnl));have hgn:=ZJ (f:=Yg) hnl rfl;have hv:=(Zfi (ns:=ns) (x:=x) (t:=s.q.o) (by omega) h hnl).symm;generalize ns[(s.c).toNat]=nd at hc' hgn hv;have hwc:IntKind.i64.wrap (1+nd.cls)=1+nd.cls:=Z9 (by omega) (by omega);repeat'((first|(show DRAWN _ _ _ _ _ _ _;first|refine DRAWN.of (id:=11) Z1 mixed Z2i (by kernel_rfl) ?_)|refine ADD.mk (fun _ _=>?_)|refine AD ?_|refine FORK.mk ?_ ?_|(refine GET.at (row:=Yg nd) (by rw[Nat.zero_add];exact hgn) ?_;conv=>whnf)|refine AU ?_|(refine IW ?_ ?_<;>intro h<;>try(exfalso;omega)))<;>conv=>whnf)
     all_goals rw[hwc]
     all_goals refine⟨⟨2+1,a,b,⟨false,1+nd.cls,Zx⟩,Js⟩,⟨by dsimp only;omega,by simpa using ha,by simpa using hb,by simpa using hv,by simp⟩,by dsimp only;omega,?_⟩
     all_goals dsimp only
     all_goals (conv=>whnf)
     all_goals exact GOES.cA h0
   ·obtain⟨hn0,hn1⟩:=hs.d;simp at ha hb hc hd;subst hd;conv=>whnf
    repeat'((first|refine AU ?_|(refine IW ?_ ?_<;>intro h<;>try(exfalso;omega)))<;>conv=>whnf)
    ·have hv:=(Zfg (cl:=ns.map Nd.cls) (x:=x) (n:=s.d) (t:=s.q.g) h).symm;refine⟨⟨3+1,a,b,c,⟨false,0,s.q.g⟩⟩,⟨by dsimp only;omega,by simpa using ha,by simpa using hb,by simpa using hc,by simpa using hv⟩,by dsimp only;omega,?_⟩;dsimp only;conv=>whnf
     exact GOES.cA h0
    ·have hv:=(Zfh (cl:=ns.map Nd.cls) (t:=s.q.g) h).symm;refine⟨⟨3+1,a,b,c,⟨true,0,Zx⟩⟩,⟨by dsimp only;omega,by simpa using ha,by simpa using hb,by simpa using hc,by simpa using hv⟩,by dsimp only;omega,?_⟩;dsimp only;conv=>whnf
     exact GOES.cA h0
    ·have hnl:(s.d).toNat<ns.length:=by omega
     have hc':=hW.cs _ (List.mem_map_of_mem (f:=Nd.cls) (List.getElem_mem hnl));have hgn:=ZJ (f:=Yg) hnl rfl;have hv:=(Zfi (ns:=ns) (x:=x) (t:=s.q.g) (by omega) h hnl).symm;generalize ns[(s.d).toNat]=nd at hc' hgn hv;have hwc:IntKind.i64.wrap (1+nd.cls)=1+nd.cls:=Z9 (by omega) (by omega);repeat'((first|(show DRAWN _ _ _ _ _ _ _;first|refine DRAWN.of (id:=11) Z1 mixed Z2i (by kernel_rfl) ?_)|refine ADD.mk (fun _ _=>?_)|refine AD ?_|refine FORK.mk ?_ ?_|(refine GET.at (row:=Yg nd) (by rw[Nat.zero_add];exact hgn) ?_;conv=>whnf)|refine AU ?_|(refine IW ?_ ?_<;>intro h<;>try(exfalso;omega)))<;>conv=>whnf)
     all_goals rw[hwc]
     all_goals refine⟨⟨3+1,a,b,c,⟨false,1+nd.cls,Zx⟩⟩,⟨by dsimp only;omega,by simpa using ha,by simpa using hb,by simpa using hc,by simpa using hv⟩,by dsimp only;omega,?_⟩
     all_goals dsimp only
     all_goals (conv=>whnf)
     all_goals exact GOES.cA h0
  ·have hk:k=4:=by simp at h1;omega
   subst hk;conv=>whnf
   repeat'((first|(refine NEED.mk (ZC 288 rfl rfl rfl (by rw[List.length_map,hTl];exact Nat.le_refl _) (by omega)) ?_;conv=>whnf)|refine AU ?_|(refine IW ?_ ?_<;>intro h<;>try(exfalso;omega)))<;>conv=>whnf)
   simp at ha hb hc hd;have hsg:sgM (ns.map Nd.cls) x s=⟨a,b,c,d⟩:=by unfold sgM;rw[ha,hb,hc,hd]
   rw[hsg]at hst;rw[Ziz T a b c d hTl.symm];refine⟨i+1,by omega,by omega,?_⟩;rw[hst];conv=>whnf
   exact GOES.kA h0 [3,9]
 ·have hie:i=ins[x].length:=by omega
  subst hie;rw[List.take_length];refine GHO.fin (GHO.putk 2 x 0 3 rfl (Z8U hx rfl) rfl rfl (by rw[List.length_map];exact Nat.le_refl _) (by decide)) ?_;rw[Zfj hx];refine FIN.aA h0 [4] (.sl (.loc 3) 0 24 ins[x].length none) [(2, .deep false 1 (inD ins)),(3, .rows 24 ((ins[x].map (sgM (ns.map Nd.cls) x)).map VT))] ⟨rfl,rfl,rfl⟩
open Tryz
def Zfk:Plan:=(Zv [(0,1),(1,1),(2,1),(3,2),(4,1),(5,1),(6,1),(7,1),(8,1),(10,1),(11,1),(12,1),(9,2),(13,2),(14,1),(15,1)])
def Ul:List Sg->List Bool->List Sg
 |x::b,u::us=>if u=true then Ul b us else x::Ul b us
 |_,_=>[]
theorem Z6g:∀b:List Sg,Ul b (List.replicate b.length false)=b
 | []=>rfl
 |x::b=>by rw[List.length_cons,List.replicate_succ,Ul,if_neg (by simp),Z6g b]
theorem Zaa:∀{b:List Sg} {us:List Bool} {k:Nat} (hb:k<b.length),us[k]?=some false->(Ul b us).Perm (b[k]::Ul b (us.set k true))
 | [],_,_,hb,_=>absurd hb (by simp)
 |x::b,[],_,_,h=>by simp at h
 |x::b,u::us,0,_,h=>by
  simp at h;subst h;rw[List.set_cons_zero,Ul,Ul,if_neg (by simp),if_pos rfl];exact List.Perm.refl _
 |x::b,u::us,k+1,hb,h=>by
  have ih:=Zaa (b:=b) (us:=us) (k:=k) (by simpa using hb) (by simpa using h);rw[List.set_cons_succ,Ul,Ul,List.getElem_cons_succ];split
  ·exact ih
  ·exact(ih.cons x).trans (List.Perm.swap ..)
theorem Zab:∀{b:List Sg} {us:List Bool} {x:Sg},x∈Ul b us->∃k,∃h:k<b.length,us[k]?=some false/\b[k]=x
 | [],_,_,h=>by simp[Ul]at h
 |y::b,[],_,h=>by simp[Ul]at h
 |y::b,u::us,x,h=>by
  rw[Ul]at h
  have up:x∈Ul b us->∃k,∃h:k< (y::b).length,(u::us)[k]?=some false/\(y::b)[k]=x:=fun h=>by
   obtain⟨k,hk,h1,h2⟩:=Zab h;exact⟨k+1,by simpa using hk,by simpa using h1,by simpa using h2⟩
  split at h
  ·exact up h
  ·rename_i hu;rcases List.mem_cons.1 h with rfl|h
   ·exact⟨0,by simp,by simpa using hu,rfl⟩
   ·exact up h
def bRow(b:Bool):List SV:=[.bool b]
instance :PlF bRow:=⟨fun _=>rfl⟩
theorem Zji(a b:Sg):a=b<->a.a.self=b.a.self/\a.a.cls=b.a.cls/\a.a.tm.k=b.a.tm.k/\a.a.tm.t=b.a.tm.t/\a.a.tm.y=b.a.tm.y/\a.a.tm.l=b.a.tm.l/\a.b.self=b.b.self/\a.b.cls=b.b.cls/\a.b.tm.k=b.b.tm.k/\a.b.tm.t=b.b.tm.t/\a.b.tm.y=b.b.tm.y/\a.b.tm.l=b.b.tm.l/\a.c.self=b.c.self/\a.c.cls=b.c.cls/\a.c.tm.k=b.c.tm.k/\a.c.tm.t=b.c.tm.t/\a.c.tm.y=b.c.tm.y/\a.c.tm.l=b.c.tm.l/\a.d.self=b.d.self/\a.d.cls=b.d.cls/\a.d.tm.k=b.d.tm.k/\a.d.tm.t=b.d.tm.t/\a.d.tm.y=b.d.tm.y/\a.d.tm.l=b.d.tm.l:=by
 obtain⟨⟨_,_,⟨_,_,_,_⟩⟩,⟨_,_,⟨_,_,_,_⟩⟩,⟨_,_,⟨_,_,_,_⟩⟩,⟨_,_,⟨_,_,_,_⟩⟩⟩:=a;obtain⟨⟨_,_,⟨_,_,_,_⟩⟩,⟨_,_,⟨_,_,_,_⟩⟩,⟨_,_,⟨_,_,_,_⟩⟩,⟨_,_,⟨_,_,_,_⟩⟩⟩:=b;simp[and_assoc]
theorem Zbm(a b:List Sg)(ha:a.length<=67108864)(hb:b.length<=67108864):Does prog tab 103 2 [.sl (.loc 0) 0 24 a.length none, .sl (.loc 1) 0 24 b.length none] [] [(0, .rows 24 (a.map VT)),(1, .rows 24 (b.map VT))] (ValK 2 (.bool (a.isPerm b))):=by
 by_cases hl:a.length=b.length
 ·have hz:(List.replicate b.length false).map bRow=List.replicate (b.length:Int).toNat [SV.bool false]:=by rw[List.map_replicate,Int.toNat_natCast];rfl
  refine Does.enter Z1 call103 func103 rfl 54 rfl rfl [.tmp 4] rfl ?_;intro w0 F η0 h0;conv=>whnf
  repeat'((first|(refine NEED.mk (Uf 8 rfl (by omega) (by omega) (by omega) (by omega)) ?_;conv=>whnf)|refine AU ?_|(refine IW ?_ ?_<;>intro h<;>try(exfalso;omega)))<;>conv=>whnf)
  rw[<-hz];refine LOOP.go Z1 [0,1,5] (X:=Nat×List Bool) (fun x=>x.1<=a.length/\x.2.length=b.length/\x.1+(Ul b x.2).length=b.length/\(a.Perm b<->(a.drop x.1).Perm (Ul b x.2))) (fun x=>[(6, .int .i64 (x.1:Int))]) (fun x=>[(2, .rows 1 (x.2.map bRow))]) 3 (fun x=>a.length-x.1) (0,List.replicate b.length false) ⟨by simp,by simp,by rw[Z6g];simp,by rw[Z6g];rfl⟩ ?_;conv=>whnf
  refine⟨by exact GOES.kA h0 [2],?_⟩;rintro⟨i,us⟩ ⟨hi,hul,hfl,hp⟩;dsimp only at hi hul hfl hp⊢;conv=>whnf
  repeat'((first|refine AU ?_|(refine IW ?_ ?_<;>intro h<;>try(exfalso;omega)))<;>conv=>whnf)
  ·have hil:i<a.length:=by omega
   have hdr:a.drop i=a[i]::a.drop (i+1):=List.drop_eq_getElem_cons hil;have hga:=ZJ (f:=VT) hil rfl;rw[hdr]at hp;generalize a[i]=y at hp hga;refine LOOP.go Z1 [0,1,5,6] (X:=Nat×(Bool×List Bool)) (fun x=>x.1<=b.length/\x.2.2.length=b.length/\(x.2.1=false->x.2.2=us/\∀k (h:k<b.length),k<x.1->us[k]?=some false->¬y=b[k])/\(x.2.1=true->∃j,∃h:j<b.length,us[j]?=some false/\y=b[j]/\x.2.2=us.set j true)) (fun x=>[(8, .int .i64 (x.1:Int)),(7, .bool x.2.1)]) (fun x=>[(2, .rows 1 (x.2.2.map bRow))]) 3 (fun x=>b.length-x.1) (0,(false,us)) ⟨by simp,hul,fun _=>⟨rfl,fun k _ h=>by simp at h⟩,fun h=>by cases h⟩ ?_;conv=>whnf
   refine⟨by exact GOES.cA h0,?_⟩;rintro⟨k,fo,vs⟩ ⟨hk,hvl,hno,hyes⟩;dsimp only at hk hvl hno hyes⊢;conv=>whnf
   repeat'((first|refine AU ?_|(refine IW ?_ ?_<;>intro h<;>try(exfalso;omega)))<;>conv=>whnf)
   ·obtain⟨h1,h2⟩:=h;obtain⟨hvs,hne⟩:=hno h2;subst hvs;have hkb:k<b.length:=by omega
    have hku:k<vs.length:=by omega
    have hgu:=ZJ (f:=bRow) hku rfl;have hgb:=ZJ (f:=VT) hkb rfl;have hsg:=Zji y b[k];have hgv:=List.getElem?_eq_getElem hku;generalize vs[k]=u at hgu hgv;repeat'((first|(show DRAWN _ _ _ _ _ _ _;first|refine DRAWN.of (id:=11) Z1 mixed Zfk (by kernel_rfl) ?_)|refine ADD.mk (fun _ _=>?_)|refine AD ?_|refine FORK.mk ?_ ?_|(refine GET.at (row:=bRow u) (by rw[Int.toNat_natCast,Nat.zero_add];exact hgu) ?_;conv=>whnf)|(refine GET.at (row:=VT y) (by rw[Int.toNat_natCast,Nat.zero_add];exact hga) ?_;conv=>whnf)|(refine GET.at (row:=VT b[k]) (by rw[Int.toNat_natCast,Nat.zero_add];exact hgb) ?_;conv=>whnf)|refine AU ?_|(refine IW ?_ ?_<;>intro h<;>try(exfalso;omega)))<;>conv=>whnf)
    ·have he:=hsg.2 h;have hu:u=false:=by assumption
     subst hu;refine⟨(k+1,(true,vs.set k true)),⟨by dsimp only;omega,by dsimp only;rw[List.length_set];omega,fun h3=>(by cases h3),fun _=>⟨k,hkb,hgv,he,rfl⟩⟩,by dsimp only;omega,?_⟩;dsimp only;rw[show(vs.map bRow).set (0+(k:Int).toNat) [Yj (Value.bool true)]=(vs.set k true).map bRow by rw[Nat.zero_add,Int.toNat_natCast];exact Z5E bRow vs k true];conv=>whnf
     exact GOES.cA h0
    ·have hn:¬y=b[k]:=fun e=>by rw[<-e]at h;simp at h
     refine⟨(k+1,(false,vs)),⟨by dsimp only;omega,by dsimp only;omega,fun _=>⟨rfl,fun k2 h2' h3 h4=>?_⟩,fun h3=>by cases h3⟩,by dsimp only;omega,?_⟩
     ·dsimp only at h3;rcases Nat.lt_or_ge k2 k with h5|h5
      ·exact hne k2 h2' h5 h4
      ·have:k2=k:=by omega
       subst this;exact hn
     ·dsimp only;rw[h2];conv=>whnf
      exact GOES.cA h0
    ·subst h;refine⟨(k+1,(false,vs)),⟨by dsimp only;omega,by dsimp only;omega,fun _=>⟨rfl,fun k2 h2' h3 h4=>?_⟩,fun h3=>by cases h3⟩,by dsimp only;omega,?_⟩
     ·dsimp only at h3;rcases Nat.lt_or_ge k2 k with h5|h5
      ·exact hne k2 h2' h5 h4
      ·have:k2=k:=by omega
       subst this;rw[hgv]at h4;cases h4
     ·dsimp only;rw[h2];conv=>whnf
      exact GOES.cA h0
   ·have hke:k=b.length:=by
     rcases Nat.lt_or_ge k b.length with h2|h2
     ·rename_i h';have:=h' (by omega);rw[h]at this;cases this
     ·omega
    obtain⟨rfl,hne⟩:=hno h;refine FIN.valueK h0 rfl (congrArg SV.bool ?_);cases hpb:a.isPerm b with
    |false=>rfl
    |true=>
     have h1:=(hp.1 (List.isPerm_iff.1 hpb)).mem_iff.1 (List.mem_cons_self ..);obtain⟨j,hj,h2,h3⟩:=Zab h1;exact(hne j hj (by omega) h2 h3.symm).elim
   ·obtain⟨j,hj,h2,h3,h4⟩:=hyes h;subst h4 h3;have hfs:=Zaa hj h2;have hfl2:=hfs.length_eq;rw[List.length_cons]at hfl2;refine⟨(i+1,us.set j true),⟨by dsimp only;omega,by dsimp only;rw[List.length_set];exact hul,by dsimp only;omega,?_⟩,by dsimp only;omega,?_⟩
    ·dsimp only;rw[hp];exact⟨fun h5=>(List.perm_cons b[j]).1 (h5.trans hfs),fun h5=>((List.perm_cons b[j]).2 h5).trans hfs.symm⟩
    ·dsimp only;conv=>whnf
     exact GOES.cA h0
  ·have hie:i=a.length:=by omega
   subst hie;have hf0:Ul b us=[]:=List.length_eq_zero_iff.1 (by omega);refine FIN.valueK h0 rfl (congrArg SV.bool ?_);rw[List.isPerm_iff.2 (hp.2 (by rw[List.drop_length,hf0]))]
 ·have hnp:a.isPerm b=false:=by
   cases h:a.isPerm b with
   |false=>rfl
   |true=>exact(hl (List.isPerm_iff.1 h).length_eq).elim
  rw[hnp];refine Does.enter Z1 call103 func103 rfl 54 rfl rfl [.tmp 4] rfl ?_;intro w0 F η0 h0;conv=>whnf
  repeat'((first|refine AU ?_|(refine IW ?_ ?_<;>intro h<;>try(exfalso;omega)))<;>conv=>whnf)
  ·exact FIN.valueK h0 rfl rfl
open Tryz
def Zac:Plan:=(Zv [(0,1),(1,1),(2,1),(4,1),(5,1),(6,1),(11,1),(12,1),(13,1),(15,1),(3,2),(7,2),(8,1),(9,1),(10,2),(14,2),(16,1),(17,1),(18,2),(19,1),(20,1),(21,1),(22,1),(23,1),(24,1),(28,1),(29,1),(30,1),(25,2),(26,1),(27,2),(31,2),(32,3),(33,1)])
def Zfm:Plan:=(Zv [(0,1),(1,1),(2,1),(4,1),(5,1),(6,1),(7,1),(3,2),(8,2),(9,1),(10,1),(11,0)])
def upC(m c:Int):Int:=if m<c+1 then c+1 else m
def maxC(cl:List Int):Int:=cl.foldl upC 0
theorem Z3W(ns:List Nd)(ni:Nat)(hc:∀n∈ns,0<=n.cls/\n.cls<67108864)(hl:ns.length<=67108864):Does prog tab 82 3 [.ptr (.loc 0) 0 0 0] [] [(0,rBx ns.length ni),(1, .rows 3 (ns.map Yg))] (ValK 3 (.int .i64 (maxC (ns.map Nd.cls)))):=by
 have hb:∀i,-9223372036854775808<=maxC ((ns.take i).map Nd.cls)/\maxC ((ns.take i).map Nd.cls)<=67108864:=by
  intro i
  have:∀(l:List Int) (m:Int),(∀c∈l,0<=c/\c<67108864)->0<=m/\m<=67108864->0<=l.foldl upC m/\l.foldl upC m<=67108864:=by
   intro l
   induction l with
   |nil=>intro m _ h;exact h
   |cons c l ih=>
    intro m h1 h2;have h3:=h1 c (List.mem_cons_self ..);exact ih _ (fun x hx=>h1 x (List.mem_cons_of_mem _ hx)) (by unfold upC;split<;>omega)
  have:=this ((ns.take i).map Nd.cls) 0 (fun c h=>by obtain⟨n,hn,rfl⟩:=List.mem_map.1 h;exact hc n (List.mem_of_mem_take hn)) (by omega);unfold maxC;omega
 refine Does.enter Z1 call82 func82 rfl 26 rfl rfl [.tmp 2] rfl ?_;intro w0 F η0 h0;conv=>whnf
 repeat'((first|refine AU ?_|(refine IW ?_ ?_<;>intro h<;>try(exfalso;omega)))<;>conv=>whnf)
 refine LOOP.go Z1 [0] (X:=Nat) (fun i=>i<=ns.length) (fun i=>[(4, .int .i64 (i:Int)),(3, .int .i64 (maxC ((ns.take i).map Nd.cls)))]) (fun _=>[]) 3 (fun i=>ns.length-i) 0 (by omega) ?_;conv=>whnf
 refine⟨by rw[show maxC ((ns.take 0).map Nd.cls)=0 from rfl];exact GOES.cA h0,?_⟩;intro i hi;have hbi:=hb i;conv=>whnf
 repeat'((first|refine AU ?_|(refine IW ?_ ?_<;>intro h<;>try(exfalso;omega)))<;>conv=>whnf)
 ·have hil:i<ns.length:=by omega
  have hst:maxC ((ns.take (i+1)).map Nd.cls)=upC (maxC ((ns.take i).map Nd.cls)) ns[i].cls:=by
   rw[List.take_succ_eq_append_getElem hil,List.map_append];unfold maxC;rw[List.foldl_append];rfl
  have hgn:=ZJ (f:=Yg) hil rfl;have hcn:=hc _ (List.getElem_mem hil);generalize ns[i]=nd at hst hgn hcn;have hwc:IntKind.i64.wrap (nd.cls+1)=nd.cls+1:=Z9 (by omega) (by omega);generalize maxC ((ns.take i).map Nd.cls)=m at hst hbi⊢;repeat'((first|(refine GET.at (row:=Yg nd) (by rw[Int.toNat_natCast,Nat.zero_add];exact hgn) ?_;conv=>whnf)|refine AU ?_|(refine IW ?_ ?_<;>intro h<;>try(exfalso;omega)))<;>conv=>whnf)
  rw[hwc];refine⟨i+1,by omega,by omega,?_⟩;rw[hst];unfold upC;conv=>whnf
  exact GOES.cA h0
 ·have hie:i=ns.length:=by omega
  subst hie;rw[List.take_length];exact FIN.valueK h0 rfl rfl
def ssM(cl:List Int)(ins:List (List Sd))(i:Nat):List (List Sg):=(List.range cl.length).map fun j=>if j<i then Y2 cl ins j else []
theorem ZdI(cl:List Int)(ins:List (List Sd))(i:Nat):(ssM cl ins i).length=cl.length:=by simp[ssM]
theorem Zhj(cl:List Int)(ins:List (List Sd)):ssM cl ins 0=List.replicate cl.length []:=by
 unfold ssM;apply List.ext_getElem
 ·simp
 ·intro i h1 h2;simp
theorem ZiB{cl:List Int}{ins:List (List Sd)}{i:Nat}:(ssM cl ins i).set i (Y2 cl ins i)=ssM cl ins (i+1):=by
 unfold ssM;apply List.ext_getElem
 ·simp
 ·intro a h1 h2;rw[List.getElem_set];simp only[List.getElem_map,List.getElem_range];split
  ·rename_i e;subst e;rw[if_pos (by omega)]
  ·rename_i e;by_cases h3:a<i
   ·rw[if_pos h3,if_pos (by omega)]
   ·rw[if_neg h3,if_neg (by omega)]
theorem ZiC{cl:List Int}{ins:List (List Sd)}{j:Nat}(h:j< (ssM cl ins cl.length).length):(ssM cl ins cl.length)[j]=Y2 cl ins j:=by
 have h2:j<cl.length:=by rw[ZdI]at h;exact h
 have h3:(ssM cl ins cl.length)[j]?=some (Y2 cl ins j):=by unfold ssM;rw[List.getElem?_map,List.getElem?_range h2];simp[h2]
 rw[List.getElem?_eq_getElem h]at h3;injection h3
theorem Zhk{l:List Int}{k x:Nat}{v:Int}(hk:k=x):(l.map Zi).set k [Yj (Value.int .i64 v)]=(l.set x v).map Zi:=VS hk
def setN(ns:List Nd)(C:List Int):List Nd:=List.zipWith (fun n c=>{n with cls:=c}) ns C
theorem ZiD{l:List Nd}{k x:Nat}{o c:Int}{t:LB}(hk:k=x):(l.map Yg).set k [SV.int .i64 o,SV.str t,SV.int .i64 c]=(l.set x ⟨o,t,c⟩).map Yg:=by rw[hk,List.map_set];rfl
theorem Z6j{ns:List Nd}{C:List Int}(h:C.length=ns.length):(setN ns C).length=ns.length:=by unfold setN;rw[List.length_zipWith];omega
def setP(ns:List Nd)(C:List Int)(i:Nat):List Nd:=setN (ns.take i) (C.take i)++ns.drop i
theorem ZdJ(ns:List Nd)(C:List Int):setP ns C 0=ns:=by simp[setP,setN]
theorem Zfn{ns:List Nd}{C:List Int}(h:C.length=ns.length):setP ns C ns.length=setN ns C:=by
 unfold setP;rw[List.take_length,List.drop_length,List.append_nil,List.take_of_length_le (by omega)]
theorem Z3X{ns:List Nd}{C:List Int}{i:Nat}(h:C.length=ns.length)(hi:i<=ns.length):(setN (ns.take i) (C.take i)).length=i:=by
 rw[Z6j (by rw[List.length_take,List.length_take,h]),List.length_take];omega
theorem Zfo{ns:List Nd}{C:List Int}{i:Nat}(h:C.length=ns.length)(hi:i<=ns.length):(setP ns C i).length=ns.length:=by
 unfold setP;rw[List.length_append,Z3X h hi,List.length_drop];omega
theorem Zfp{ns:List Nd}{C:List Int}{i:Nat}(h:C.length=ns.length)(hi:i<ns.length):(setP ns C i)[i]?=some ns[i]:=by
 unfold setP;rw[List.getElem?_append_right (by rw[Z3X h (by omega)];exact Nat.le_refl _),Z3X h (by omega),Nat.sub_self,List.getElem?_drop,Nat.add_zero,List.getElem?_eq_getElem hi]
theorem Zfq{ns:List Nd}{C:List Int}{i:Nat}(h:C.length=ns.length)(hi:i<ns.length):(setP ns C i).set i {ns[i]with cls:=C[i]'(by omega)}=setP ns C (i+1):=by
 unfold setP;rw[List.set_append_right _ _ (by rw[Z3X h (by omega)];exact Nat.le_refl _),Z3X h (by omega),Nat.sub_self,List.drop_eq_getElem_cons hi,List.set_cons_zero];rw[List.take_succ_eq_append_getElem hi,List.take_succ_eq_append_getElem (show i<C.length by omega)];unfold setN;rw[List.zipWith_append (by rw[List.length_take,List.length_take,h]),List.append_assoc]
 rfl
theorem Z8Z(ns:List Nd)(ins:List (List Sd))(hW:WOK (ns.map Nd.cls) ins):
 Does prog tab 72 3 [.ptr (.loc 0) 0 0 0] [(1, .rows 3 (ns.map Yg)),(2, .deep false 1 (inD ins))] [(0,rBx ns.length ins.length)]
 (fun r O nx=>r= .bool (decide (maxC (ns.map Nd.cls)< ((ZE (Xa (ns.map Nd.cls) ins)).length:Int)))/\O=[(1, .rows 3 ((setN ns (YQ (Xa (ns.map Nd.cls) ins))).map Yg)),(2, .deep false 1 (inD ins))]/\nx=3):=by
 have hln:=hW.len;have hn:=hW.n;have hcs:=hW.cs;have hki:=Zhd (fun c h=>(hcs c h).1) ins;have hkl:=Z2c (ns.map Nd.cls) ins;have hcN:∀n∈ns,0<=n.cls/\n.cls<67108864:=fun n h=>hcs _ (List.mem_map_of_mem h);rw[List.length_map]at hln hn hkl;refine Does.enter Z1 call72 func72 rfl 141 rfl rfl [.tmp 2] rfl ?_;intro w0 F η0 h0;conv=>whnf
 repeat'((first|(refine NEED.mk (Uf 24 rfl (by omega) (by omega) (by omega) (by omega)) ?_;conv=>whnf)|refine AU ?_|(refine IW ?_ ?_<;>intro h<;>try(exfalso;omega)))<;>conv=>whnf)
 rw[Int.toNat_natCast];refine GHO.loop (GHO.deepen 3 (kD 24 VT (List.replicate ns.length [])) rfl (ZdH 24 VT _)) ?_;refine LOOP.gok Z1 [0,3] [1,2] (X:=Nat) (fun i=>i<=ns.length) (fun i=>[(4, .int .i64 (i:Int))]) (fun i=>[(3, .deep false 1 (kD 24 VT (ssM (ns.map Nd.cls) ins i)))]) 4 (fun i=>ns.length-i) 0 (by omega) ?_;conv=>whnf
 refine⟨by rw[Zhj,List.length_map];exact GOES.cA h0,?_⟩;intro i hi;conv=>whnf
 repeat'((first|refine AU ?_|(refine IW ?_ ?_<;>intro h<;>try(exfalso;omega)))<;>conv=>whnf)
 ·have hil:i<ns.length:=by omega
  have hsg:=Z7H ns ins i hW (by omega);have hset:=ZiB (cl:=ns.map Nd.cls) (ins:=ins) (i:=i);have hsl:=ZdI (ns.map Nd.cls) ins i;rw[List.length_map]at hsl;generalize ssM (ns.map Nd.cls) ins i=SS at hset hsl⊢
  have hsgl:((Y2 (ns.map Nd.cls) ins i).map VT).length=(ins[i]'(by omega)).length:=by
   rw[List.length_map];unfold Y2;rw[List.length_map,List.getD_eq_getElem?_getD,List.getElem?_eq_getElem (by omega),Option.getD_some]
  repeat'((first|refine AU ?_|(refine IW ?_ ?_<;>intro h<;>try(exfalso;omega)))<;>conv=>whnf)
  refine CALL.aA [0,1,2] (hsg) ?_;rintro r O nx ⟨rfl,rfl,rfl⟩;conv=>whnf
  repeat'((first|(refine FINDD.at (Zhi (i:=i) (by omega) (by omega)) ?_;conv=>whnf)|(refine NEED.mk (by rw[Ze _ (ZdD _),hsgl];exact Nat.le_refl _) ?_;conv=>whnf)|refine AU ?_|(refine IW ?_ ?_<;>intro h<;>try(exfalso;omega)))<;>conv=>whnf)
  rw[Ze _ (ZdD _),Zfl (i:=i) (l:=Y2 (ns.map Nd.cls) ins i) (by omega) (by rw[<-hsgl,List.take_length]),hset];refine⟨i+1,by omega,by omega,?_⟩;conv=>whnf
  exact GOES.cA h0
 ·have hie:i=ns.length:=by omega
  subst hie;have hSl:=ZdI (ns.map Nd.cls) ins ns.length;have hSg:=fun j h=>ZiC (cl:=ns.map Nd.cls) (ins:=ins) (j:=j) h;rw[List.length_map]at hSl hSg;generalize ssM (ns.map Nd.cls) ins ns.length=SS at hSl hSg⊢
  have hz:(VD (Xa (ns.map Nd.cls) ins) ns.length 0).map Zi=List.replicate (ns.length:Int).toNat [SV.int .i64 0]:=by
   unfold VD;rw[List.take_zero,List.nil_append,List.map_replicate,Nat.sub_zero,Int.toNat_natCast];rfl
  repeat'((first|(refine NEED.mk (Uf 8 rfl (by omega) (by omega) (by omega) (by omega)) ?_;conv=>whnf)|refine AU ?_|(refine IW ?_ ?_<;>intro h<;>try(exfalso;omega)))<;>conv=>whnf)
  rw[<-hz];refine LOOP.nil 5 1 rfl ?_;generalize hks:Xa (ns.map Nd.cls) ins=ks at hkl hz⊢;refine LOOP.gok Z1 [0,3,6] [1,2,3] (X:=Nat×List Nat) (fun x=>x.1<=ns.length/\x.2.map (keyM (ns.map Nd.cls) ins)=ZE (ks.take x.1)/\∀j∈x.2,j<x.1) (fun x=>[(7, .int .i64 (x.1:Int)),(5, .sl (.loc 5) 0 1 x.2.length none)]) (fun x=>[(4, .rows 1 ((VD ks ns.length x.1).map Zi)),(5, .rows 1 ((x.2.map fun(j:Nat)=>(j:Int)).map Zi))]) 6 (fun x=>ns.length-x.1) (0,[]) ⟨by simp,rfl,fun j h=>by cases h⟩ ?_;conv=>whnf
  refine⟨by exact GOES.kA h0 [3,4,5],?_⟩;rintro⟨i,fs⟩ ⟨hi,hfk,hfi⟩;dsimp only at hi hfk hfi⊢;conv=>whnf
  repeat'((first|refine AU ?_|(refine IW ?_ ?_<;>intro h<;>try(exfalso;omega)))<;>conv=>whnf)
  ·have hil:i<ns.length:=by omega
   have hnl:=Za7 hkl hi;have hni:i< (VD ks ns.length i).length:=by omega
   repeat'((first|(refine GET.at (row:=Zi (VD ks ns.length i)[i]) (ZJ hni (by omega)) ?_;conv=>whnf)|refine AU ?_|(refine IW ?_ ?_<;>intro h<;>try(exfalso;omega)))<;>conv=>whnf)
   rw[Zhk (x:=i) (v:= -1) (by omega)]
   have hfl:fs.length<=i:=by
    have:=W7 ks i;rw[<-hfk,List.length_map]at this;exact this
   have hkc:∀c:Int,(((VD ks ns.length i).set i c).map Zi)[i]?=some (Zi c):=fun c=>by
    rw[List.getElem?_map,List.getElem?_set,if_pos rfl,if_pos hni];rfl
   refine LOOP.gok Z1 [0,3,5,6,7] [1,2,3,5] (X:=Nat×Int) (fun x=>x.1<=fs.length/\((x.2= -1/\∀k (h:k<fs.length),k<x.1->¬keyM (ns.map Nd.cls) ins fs[k]=keyM (ns.map Nd.cls) ins i)\/∃j:Nat,x.2=(j:Int)/\∃h:j<fs.length,keyM (ns.map Nd.cls) ins fs[j]=keyM (ns.map Nd.cls) ins i/\∀k (h':k<fs.length),k<j->¬keyM (ns.map Nd.cls) ins fs[k]=keyM (ns.map Nd.cls) ins i)) (fun x=>[(8, .int .i64 (x.1:Int))]) (fun x=>[(4, .rows 1 (((VD ks ns.length i).set i x.2).map Zi))]) 6 (fun x=>fs.length-x.1) (0,-1) ⟨by simp, .inl ⟨rfl,fun k _ h=>by simp at h⟩⟩ ?_;conv=>whnf
   refine⟨by exact GOES.cA h0,?_⟩;rintro⟨k,c⟩ ⟨hk,hc⟩;dsimp only at hk hc⊢;conv=>whnf
   repeat'((first|(refine GETG.at (row:=Zi c) (by rw[Int.toNat_natCast,Nat.zero_add];exact hkc c) ?_;conv=>whnf)|refine AU ?_|(refine IW ?_ ?_<;>intro h<;>try(exfalso;omega)))<;>conv=>whnf)
   ·obtain⟨h1,h2⟩:=h
    have hne:c= -1/\∀k' (h:k'<fs.length),k'<k->¬keyM (ns.map Nd.cls) ins fs[k']=keyM (ns.map Nd.cls) ins i:=by
     rcases hc with⟨h4,h3⟩|⟨j,h3,_⟩
     ·exact⟨h4,h3⟩
     ·omega
    clear hc;obtain⟨hc1,hne⟩:=hne;have hkf:k<fs.length:=by omega
    have hji:=hfi _ (List.getElem_mem hkf);have hgf:((fs.map fun(j:Nat)=>(j:Int)).map Zi)[k]?=some (Zi (fs[k]:Nat)):=by rw[List.getElem?_map,List.getElem?_map,List.getElem?_eq_getElem hkf];rfl
    have hki':=hki fs[k] i
    have hnew:∀{c':Int}, ¬keyM (ns.map Nd.cls) ins fs[k]=keyM (ns.map Nd.cls) ins i->∀k' (h:k'<fs.length),k'<k+1->¬keyM (ns.map Nd.cls) ins fs[k']=keyM (ns.map Nd.cls) ins i:=fun{c'} h3 k' h4 h5=>by
     rcases Nat.lt_or_ge k' k with h6|h6
     ·exact hne k' h4 h6
     ·have:k'=k:=by omega
      subst this;exact h3
    generalize hjf:fs[k]=j at hji hgf hki' hnew;have hjn:j<ns.length:=by omega
    have hjS:j<SS.length:=by omega
    have hiS:i<SS.length:=by omega
    have hij:j≠i:=by omega
    have hgj:=ZJ (f:=Yg) hjn rfl;have hgi:=ZJ (f:=Yg) hil rfl;rw[List.getD_eq_getElem?_getD,List.getD_eq_getElem?_getD,List.getElem?_map,List.getElem?_map,List.getElem?_eq_getElem hjn,List.getElem?_eq_getElem hil,Option.map_some,Option.map_some,Option.getD_some,Option.getD_some,<-hSg j hjS,<-hSg i hiS]at hki'
    have hfew:∀a (h:a<SS.length),SS[a].length<=67108864:=fun a h=>by
     rw[hSg];unfold Y2;rw[List.length_map,List.getD_eq_getElem?_getD,List.getElem?_eq_getElem (by omega),Option.getD_some];have:=hW.few _ (List.getElem_mem (show a<ins.length by omega));omega
    have hal:=Zbm SS[j] SS[i] (hfew j hjS) (hfew i hiS);have h2s:=fun s s'=>ZiA (es:=24) (f:=VT) (sv:=s) (sv':=s') hjS hiS hij;refine GHO.drawn (GHO.trans (GHO.take 3 j 0 rfl (ZdF hjS rfl) rfl) (GHO.take 3 i 0 rfl (Z2j hiS rfl (fun e=>hij e.symm)) rfl)) ?_;rw[show(SS[j].map VT).length=SS[j].length from List.length_map ..,show(SS[i].map VT).length=SS[i].length from List.length_map ..];repeat'((first|(show DRAWN _ _ _ _ _ _ _;first|refine DRAWN.of (id:=15) Z1 mixed Zac (by kernel_rfl) ?_)|refine ADD.mk (fun _ _=>?_)|refine AD ?_|refine FORK.mk ?_ ?_|(refine GET.at (row:=Zi (j:Int)) (by rw[Int.toNat_natCast,Nat.zero_add];exact hgf) ?_;conv=>whnf)|(refine GET.at (row:=Yg ns[j]) (by rw[Int.toNat_natCast,Nat.zero_add];exact hgj) ?_;conv=>whnf)|(refine GET.at (row:=Yg ns[i]) (by rw[Int.toNat_natCast,Nat.zero_add];exact hgi) ?_;conv=>whnf)|(refine GET.at (by rw[Int.toNat_natCast,Nat.zero_add];exact(h2s _ _).1) ?_;conv=>whnf)|(refine GET.at (by rw[Int.toNat_natCast,Nat.zero_add];exact(h2s _ _).2.1) ?_;conv=>whnf)|refine AU ?_|(refine IW ?_ ?_<;>intro h<;>try(exfalso;omega)))<;>conv=>whnf)
    ·refine CALL.aA [6,7] (hal) ?_;rintro r O nx ⟨rfl,rfl,rfl⟩;conv=>whnf
     repeat'((first|(show DRAWN _ _ _ _ _ _ _;first|refine DRAWN.of (id:=15) Z1 mixed Zac (by kernel_rfl) ?_)|refine ADD.mk (fun _ _=>?_)|refine AD ?_|refine FORK.mk ?_ ?_|(refine GET.at (row:=Zi c) (by rw[Int.toNat_natCast,Nat.zero_add];exact hkc c) ?_;conv=>whnf)|refine AU ?_|(refine IW ?_ ?_<;>intro h<;>try(exfalso;omega)))<;>conv=>whnf)
     ·have hke:keyM (ns.map Nd.cls) ins fs[k]=keyM (ns.map Nd.cls) ins i:=by rw[hjf];exact hki'.2 ⟨by assumption,List.isPerm_iff.1 h⟩
      rw[VS (x:=i) (v:=(k:Int)) (by omega),List.set_set];refine⟨(k+1,(k:Int)),⟨by dsimp only;omega, .inr ⟨k,rfl,hkf,hke,hne⟩⟩,by dsimp only;omega,?_⟩;dsimp only;conv=>whnf
      refine GOES.trans (GHO.goes (GHO.trans (GHO.putk 3 j 0 6 rfl (h2s _ _).2.2 rfl rfl (by rw[List.length_map];exact Nat.le_refl _) (by decide)) (GHO.putk 3 i 0 7 rfl (ZdG hjS hiS hij rfl) rfl rfl (by rw[List.length_map];exact Nat.le_refl _) (by decide)))) ?_;rw[Z6i hjS hiS hij rfl rfl];exact GOES.cA h0
     ·have h3:¬keyM (ns.map Nd.cls) ins j=keyM (ns.map Nd.cls) ins i:=fun e=>by
       have:=List.isPerm_iff.2 (hki'.1 e).2;rw[h]at this;cases this
      refine⟨(k+1,c),⟨by dsimp only;omega, .inl ⟨by dsimp only;omega,hnew (c':=c) h3⟩⟩,by dsimp only;omega,?_⟩;dsimp only;conv=>whnf
      refine GOES.trans (GHO.goes (GHO.trans (GHO.putk 3 j 0 6 rfl (h2s _ _).2.2 rfl rfl (by rw[List.length_map];exact Nat.le_refl _) (by decide)) (GHO.putk 3 i 0 7 rfl (ZdG hjS hiS hij rfl) rfl rfl (by rw[List.length_map];exact Nat.le_refl _) (by decide)))) ?_;rw[Z6i hjS hiS hij rfl rfl];exact GOES.cA h0
    ·have h3:¬keyM (ns.map Nd.cls) ins j=keyM (ns.map Nd.cls) ins i:=fun e=>h (hki'.1 e).1;refine⟨(k+1,c),⟨by dsimp only;omega, .inl ⟨by dsimp only;omega,hnew (c':=c) h3⟩⟩,by dsimp only;omega,?_⟩;dsimp only;conv=>whnf
     refine GOES.trans (GHO.goes (GHO.trans (GHO.putk 3 j 0 6 rfl (h2s _ _).2.2 rfl rfl (by rw[List.length_map];exact Nat.le_refl _) (by decide)) (GHO.putk 3 i 0 7 rfl (ZdG hjS hiS hij rfl) rfl rfl (by rw[List.length_map];exact Nat.le_refl _) (by decide)))) ?_;rw[Z6i hjS hiS hij rfl rfl];exact GOES.cA h0
   ·have hik:i<ks.length:=by omega
    have hki0:ks[i]=keyM (ns.map Nd.cls) ins i:=by simp only[<-hks];exact Za6 _
    have hfs:=YO ks hik;have hold:=Z69 ks hik;have hnew:=Z6a ks hik;have hFn:=UJ ks i;rw[<-hfk,hki0]at hfs hold hnew;rw[<-hfk]at hFn
    have hkey:(c= -1/\¬keyM (ns.map Nd.cls) ins i∈fs.map (keyM (ns.map Nd.cls) ins))\/∃j:Nat,c=(j:Int)/\∃hj:j<fs.length,keyM (ns.map Nd.cls) ins fs[j]=keyM (ns.map Nd.cls) ins i:=by
     rcases hc with⟨h4,h3⟩|⟨j,h4,h5,h6,h7⟩
     ·refine .inl ⟨h4,fun hm=>?_⟩;obtain⟨x,hx,he⟩:=List.mem_map.1 hm;obtain⟨k',hk',rfl⟩:=List.getElem_of_mem hx;refine h3 k' hk' ?_ he;rcases Nat.lt_or_ge k fs.length with hlt|hge
      ·have:=h (by omega);omega
      ·omega
     ·exact .inr ⟨j,h4,h5,h6⟩
    clear hc;repeat'((first|(refine GET.at (row:=Zi c) (by rw[Int.toNat_natCast,Nat.zero_add];exact hkc c) ?_;conv=>whnf)|(refine NEED.mk (ZC 8 rfl rfl (by simp) (by simp) (by omega)) ?_;conv=>whnf)|refine AU ?_|(refine IW ?_ ?_<;>intro h<;>try(exfalso;omega)))<;>conv=>whnf)
    ·rcases hkey with⟨hc1,hk1⟩|⟨j,hc1,_⟩
     ·have h4:=hnew hk1;rw[List.length_map]at h4;rw[if_neg hk1]at hfs;rw[VS (x:=i) (v:=(fs.length:Int)) (by omega),List.set_set,Z2d hkl hil h4,Z0q (fs.map fun(j:Nat)=>(j:Int)) (i:Int) (by rw[List.length_map]),show(fs.map fun(j:Nat)=>(j:Int))++ [(i:Int)]=(fs++ [i]).map fun(j:Nat)=>(j:Int)from by rw[List.map_append];rfl];refine⟨(i+1,fs++ [i]),⟨by dsimp only;omega,by dsimp only;rw[List.map_append,hfs];rfl,fun j hj=>(List.mem_append.1 hj).elim (fun e=>by have:=hfi j e;dsimp only;omega) (fun e=>by have:=List.mem_singleton.1 e;dsimp only;omega)⟩,by dsimp only;omega,?_⟩;dsimp only;rw[show(fs++ [i]).length=fs.length+1 by simp];conv=>whnf
      exact GOES.kA h0 [3,4,7]
     ·omega
    ·rcases hkey with⟨hc1,hk1⟩|⟨j,hc1,hj,hje⟩
     ·omega
     ·have hin:keyM (ns.map Nd.cls) ins i∈fs.map (keyM (ns.map Nd.cls) ins):=List.mem_map.2 ⟨fs[j],List.getElem_mem hj,hje⟩
      have hidx:List.idxOf (keyM (ns.map Nd.cls) ins i) (fs.map (keyM (ns.map Nd.cls) ins))=j:=by
       rw[<-hje,show keyM (ns.map Nd.cls) ins fs[j]=(fs.map (keyM (ns.map Nd.cls) ins))[j]'(by rw[List.length_map];exact hj)from(List.getElem_map ..).symm];exact List.Nodup.idxOf_getElem hFn j _
      have h4:=hold hin;rw[hidx,<-hc1]at h4;rw[if_pos hin]at hfs;rw[Z2d hkl hil h4];refine⟨(i+1,fs),⟨by dsimp only;omega,hfs.symm,fun j hj=>by have:=hfi j hj;dsimp only;omega⟩,by dsimp only;omega,?_⟩;dsimp only;conv=>whnf
      exact GOES.cA h0
  ·have hie:i=ns.length:=by omega
   subst hie;rw[List.take_of_length_le (by omega)]at hfk;have hmax:=Z3W ns ins.length hcN (by omega)
   have hfl:fs.length<=ns.length:=by
    have:=W7 ks ns.length;rw[List.take_of_length_le (by omega),<-hfk,List.length_map]at this;exact this
   have hne:VD ks ns.length ns.length=YQ ks:=Za8 hkl;rw[hne];have hNl:(YQ ks).length=ns.length:=by rw[Jf,hkl]
   repeat'((first|refine AU ?_|(refine IW ?_ ?_<;>intro h<;>try(exfalso;omega)))<;>conv=>whnf)
   refine CALL.aA [0,1,2] (hmax) ?_;rintro r O nx ⟨rfl,rfl,rfl⟩;conv=>whnf
   repeat'((first|refine AU ?_|(refine IW ?_ ?_<;>intro h<;>try(exfalso;omega)))<;>conv=>whnf)
   refine LOOP.gok Z1 [0,5,6,9] [2,4] (X:=Nat) (fun i=>i<=ns.length) (fun i=>[(10, .int .i64 (i:Int))]) (fun i=>[(1, .rows 3 ((setP ns (YQ ks) i).map Yg))]) 6 (fun i=>ns.length-i) 0 (by omega) ?_;conv=>whnf
   refine⟨by rw[ZdJ];exact GOES.cA h0,?_⟩;intro i hi;have hPl:=Zfo (C:=YQ ks) (i:=i) hNl hi;conv=>whnf
   repeat'((first|refine AU ?_|(refine IW ?_ ?_<;>intro h<;>try(exfalso;omega)))<;>conv=>whnf)
   ·have hil:i<ns.length:=by omega
    have hset:=Zfq hNl hil;have hpn:=Zfp (C:=YQ ks) hNl hil;have hiN:i< (YQ ks).length:=by omega
    have hgn:=ZJ (f:=Zi) hiN rfl;repeat'((first|(show DRAWN _ _ _ _ _ _ _;first|refine DRAWN.of (id:=24) Z1 mixed Zfm (by kernel_rfl) ?_)|refine ADD.mk (fun _ _=>?_)|refine AD ?_|refine FORK.mk ?_ ?_|(refine GET.at (row:=Zi (YQ ks)[i]) (by rw[Int.toNat_natCast,Nat.zero_add];exact hgn) ?_;conv=>whnf)|refine AU ?_|(refine IW ?_ ?_<;>intro h<;>try(exfalso;omega)))<;>conv=>whnf)
    refine GET.at (row:=Yg ns[i]) (by rw[Int.toNat_natCast,Nat.zero_add,List.getElem?_map,hpn];rfl) ?_;conv=>whnf
    repeat'((first|refine AU ?_|(refine IW ?_ ?_<;>intro h<;>try(exfalso;omega)))<;>conv=>whnf)
    rw[ZiD (x:=i) (by omega)];refine⟨i+1,by omega,by omega,?_⟩;rw[<-hset];conv=>whnf
    exact GOES.cA h0
   ·have hie:i=ns.length:=by omega
    subst hie;rw[Zfn hNl];have hfl2:(ZE ks).length=fs.length:=by rw[<-hfk,List.length_map]
    rw[hfl2];repeat'((first|refine AU ?_|(refine IW ?_ ?_<;>intro h<;>try(exfalso;omega)))<;>conv=>whnf)
    refine FIN.aA h0 [] (.bool (decide (maxC (ns.map Nd.cls)< (fs.length:Int)))) [(1, .rows 3 ((setN ns (YQ ks)).map Yg)),(2, .deep false 1 (inD ins))] ⟨rfl,rfl,rfl⟩
open Tryz
theorem Zad(ks:List LB):maxC (YQ ks)=((ZE ks).length:Int):=by
 have:∀i,i<=ks.length->maxC ((YQ ks).take i)=((ZE (ks.take i)).length:Int):=by
  intro i
  induction i with
  |zero=>intro _;simp[maxC,ZE]
  |succ i ih=>
   intro h;have hik:i<ks.length:=by omega
   have hin:i< (YQ ks).length:=by rw[Jf];exact hik
   have h1:=ih (by omega);have hold:=Z69 ks hik;have hnew:=Z6a ks hik;rw[List.getElem?_eq_getElem hin]at hold hnew
   have hst:maxC ((YQ ks).take (i+1))=upC (maxC ((YQ ks).take i)) (YQ ks)[i]:=by
    rw[List.take_succ_eq_append_getElem hin];unfold maxC;rw[List.foldl_append];rfl
   rw[hst,h1,YO ks hik];by_cases hm:ks[i]∈ZE (ks.take i)
   ·rw[if_pos hm];have h2:=hold hm;injection h2 with h2;have:=List.idxOf_lt_length_of_mem hm;unfold upC;rw[if_neg (by omega)]
   ·rw[if_neg hm];have h2:=hnew hm;injection h2 with h2;unfold upC;rw[if_pos (by omega),h2,List.length_append];simp
 have h:=this ks.length (Nat.le_refl _);rw[List.take_of_length_le (by rw[Jf];exact Nat.le_refl _),List.take_length]at h;exact h
theorem Zfr(n:Nat):maxC (List.replicate n 0)=if(n:Int)<1 then(n:Int)else 1:=by
 have:∀n,0<n->maxC (List.replicate n 0)=1:=by
  intro n
  induction n with
  |zero=>intro h;omega
  |succ n ih=>
   intro _;rw[List.replicate_succ',maxC,List.foldl_append];rcases Nat.eq_zero_or_pos n with e|e
   ·subst e;rfl
   ·have h:=ih e;unfold maxC at h;rw[h];rfl
 rcases Nat.eq_zero_or_pos n with e|e
 ·subst e;rfl
 ·rw[this n e,if_neg (by omega)]
theorem ZdK(cl:List Int):0<=maxC cl:=by
 have:∀(l:List Int) (m:Int),0<=m->0<=l.foldl upC m:=by
  intro l
  induction l with
  |nil=>intro m h;exact h
  |cons c l ih=>intro m h;exact ih _ (by unfold upC;split<;>omega)
 exact this cl 0 (by omega)
theorem Settles.max{ins:List (List Sd)}{cl:List Int}{ct:Int}{F:List Int}{c:Int}(h:Settles ins cl ct F c):maxC F=c:=by
 induction h with
 |stop _=>exact Zad _
 |go _ _ ih=>exact ih
theorem Zfs(ns:List Nd):setN ns (ns.map Nd.cls)=ns:=by
 unfold setN
 induction ns with
 |nil=>rfl
 |cons n ns ih=>rw[List.map_cons,List.zipWith_cons_cons,ih]
theorem Zft{ns:List Nd}{C D:List Int}(h:C.length=ns.length):setN (setN ns C) D=setN ns D:=by
 unfold setN
 induction ns generalizing C D with
 |nil=>simp
 |cons n ns ih=>
  cases C with
  |nil=>simp at h
  |cons c C=>
   cases D with
   |nil=>simp
   |cons d D=>rw[List.zipWith_cons_cons,List.zipWith_cons_cons,List.zipWith_cons_cons,ih (by simpa using h)]
theorem Z6k{ns:List Nd}{C:List Int}(h:C.length=ns.length):(setN ns C).map Nd.cls=C:=by
 unfold setN
 induction ns generalizing C with
 |nil=>cases C with
  |nil=>rfl
  |cons c C=>simp at h
 |cons n ns ih=>
  cases C with
  |nil=>simp at h
  |cons c C=>rw[List.zipWith_cons_cons,List.map_cons,ih (by simpa using h)]
theorem Z7I(ns:List Nd)(ins:List (List Sd))(hW:WOK (ns.map Nd.cls) ins):
 Does prog tab 41 3 [.ptr (.loc 0) 0 0 0] [(1, .rows 3 (ns.map Yg)),(2, .deep false 1 (inD ins))] [(0,rBx ns.length ins.length)]
 (fun r O nx=>r= .tup []/\∃F c,Settles ins (ns.map Nd.cls) (maxC (ns.map Nd.cls)) F c/\O=[(1, .rows 3 ((setN ns F).map Yg)),(2, .deep false 1 (inD ins))]/\nx=3):=by
 refine Does.enter Z1 call41 func41 rfl 4 rfl rfl [] rfl ?_;intro w0 F η0 h0;conv=>whnf
 repeat'((first|refine AU ?_|(refine IW ?_ ?_<;>intro h<;>try(exfalso;omega)))<;>conv=>whnf)
 refine LOOP.gok Z1 [0] [] (X:=List Int) (fun x=>WOK x ins/\x.length=ns.length/\∀F c,Settles ins x (maxC x) F c->Settles ins (ns.map Nd.cls) (maxC (ns.map Nd.cls)) F c) (fun x=>[]) (fun x=>[(1, .rows 3 ((setN ns x).map Yg)),(2, .deep false 1 (inD ins))]) 3 (fun x=>ns.length-(maxC x).toNat) (ns.map Nd.cls) ⟨hW,by rw[List.length_map],fun F c hs=>hs⟩ ?_;conv=>whnf
 refine⟨by rw[Zfs];exact GOES.cA h0,?_⟩;rintro C ⟨hC,hl,hS⟩;have hsp:=Z8Z (setN ns C) ins (by rw[Z6k hl];exact hC);rw[Z6j hl,Z6k hl,Zft hl]at hsp;conv=>whnf
 repeat'((first|refine AU ?_|(refine IW ?_ ?_<;>intro h<;>try(exfalso;omega)))<;>conv=>whnf)
 refine CALL.aA [0,1,2] (hsp) ?_;rintro r O nx ⟨rfl,rfl,rfl⟩;conv=>whnf
 obtain⟨hW2,hl2,hf2⟩:=hC.next;have hp:=ZdK C;have hm:=Zad (Xa C ins);refine IF.mk (fun h1=>?_) (fun h1=>?_)
 ·have h1:maxC C< ((ZE (Xa C ins)).length:Int):=by simpa using h1
  conv=>whnf
  refine⟨YQ (Xa C ins),⟨hW2,by omega,fun F c hs=>hS F c (.go h1 (by rw[<-hm];exact hs))⟩,by rw[hm];omega,?_⟩;conv=>whnf
  exact GOES.cA h0
 ·have h1:¬maxC C< ((ZE (Xa C ins)).length:Int):=by simpa using h1
  conv=>whnf
  refine FIN.aA h0 [] (.tup []) [(1, .rows 3 ((setN ns (YQ (Xa C ins))).map Yg)),(2, .deep false 1 (inD ins))] ⟨rfl,_,_,hS _ _ (.stop h1),rfl,rfl⟩
end Go.Proofs.YtbfbokdccdagkaaGreatDoor
namespace Go.Proofs.YtbfbokdccdagkaaGreatDoor
open Go.Sx Go.Our Go.Lib
def Zgl(l:List LB):List DC:=[.kid 1 (l.map Zb)]
def lbD(out:List (List LB)):List (List DC):=out.map Zgl
theorem Zae:∀out:List (List LB),ZH (lbD out)=true
 | []=>rfl
 |l::out=>by simp only[lbD,List.map_cons,Zgl,ZH,YZ,Uh,Zl,Bool.and_self,Bool.true_and];exact Zae out
instance {out:List (List LB)}:PlD (lbD out):=⟨Zae out⟩
structure ClsOK(l:List Qd):Prop where
 few:l.length<=65536
 tm:∀q∈l,TmOK 1048576 q.s/\TmOK 1048576 q.p/\TmOK 1048576 q.o/\TmOK 1048576 q.g
end Go.Proofs.YtbfbokdccdagkaaGreatDoor
namespace Go.Proofs.YtbfbokdccdagkaaGreatDoor
open Go.Sx Go.Our
open Tryz
def W9:Plan:=(Zv [(0,1),(1,1),(2,1),(3,1),(4,1),(5,2),(6,2),(7,3),(8,1),(9,1)])
def Zbp:Plan:=(Zv [(0,1),(1,1),(2,1),(3,1),(8,1),(9,1),(10,1),(12,1),(13,1),(14,1),(16,1),(4,2),(5,1),(6,1),(7,2),(11,2),(15,2),(17,1),(18,2),(19,1),(20,1),(21,2),(22,1),(23,1),(24,0)])
def nsM(s:Sd):List Int:=[s.a,s.b,s.c,s.d]
def Z0x(ps:List Int)(s:Sd):Bool:=(nsM s).all fun n=>decide (n<0)||decide (0<=ps.getD n.toNat 0)
def imgT(labs:List LB)(half:Nat)(ps:List Int)(t:Tm)(n:Int):Tm:=if n<0 then t else{t with t:=labs.getD ((half:Int)+ps.getD n.toNat 0).toNat []}
def imgQ(labs:List LB)(half:Nat)(ps:List Int)(s:Sd):Qd:=⟨imgT labs half ps s.q.s s.a,imgT labs half ps s.q.p s.b,imgT labs half ps s.q.o s.c,imgT labs half ps s.q.g s.d⟩
def Z4q(labs:List LB)(half:Nat)(ps:List Int)(bq:List Qd)(l:List Sd):Bool:=l.all fun s=>!Z0x ps s||decide (imgQ labs half ps s∈bq)
def sBx(half:Nat)(left:Int):Hp:= .box [.ptr (.loc 1) 0 0 0, .int .i64 half, .mp (.loc 2), .sl (.loc 3) 0 1 half none, .sl (.loc 4) 0 1 half none, .int .i64 left]
def wFx(nl nc ni ng:Nat)(count:Int):Hp:= .box [.sl (.loc 5) 0 1 nl none, .sl (.loc 6) 0 1 nc none, .sl (.loc 7) 0 1 ni none, .sl (.loc 8) 0 1 ng none, .int .i64 count]
def Z0y(bq:List Qd):List (List SV):=UC KQ intV (bq.map fun q=>(q,(1:Int)))
instance {bq:List Qd}:Pl (Z0y bq):=⟨Z8q KQ intV (fun _=>rfl) _⟩
def Z4r(s:Sd):List Tm:=[s.q.s,s.q.p,s.q.o,s.q.g]
def imgL(labs:List LB)(half:Nat)(ps:List Int)(s:Sd):List Tm:=List.zipWith (imgT labs half ps) (Z4r s) (nsM s)
def imgK(labs:List LB)(half:Nat)(ps:List Int)(s:Sd)(k:Nat):List Tm:=(imgL labs half ps s).take k++(Z4r s).drop k
theorem ZdQ(labs:List LB)(half:Nat)(ps:List Int)(s:Sd):imgK labs half ps s 0=Z4r s:=rfl
theorem Z7K{labs:List LB}{half:Nat}{ps:List Int}{s:Sd}{k:Nat}(hk:k<4):imgK labs half ps s (k+1)=(imgK labs half ps s k).set k (imgT labs half ps ((Z4r s)[k]'hk) ((nsM s)[k]'hk)):=by
 match k,hk with
 |0,_=>rfl
 |1,_=>rfl
 |2,_=>rfl
 |3,_=>rfl
theorem Zag{labs:List LB}{half:Nat}{ps:List Int}{s:Sd}{k:Nat}(hk:k<4):(imgK labs half ps s k)[k]?=some ((Z4r s)[k]'hk):=by
 match k,hk with
 |0,_=>rfl
 |1,_=>rfl
 |2,_=>rfl
 |3,_=>rfl
theorem Zfv{labs:List LB}{half:Nat}{ps:List Int}{s:Sd}{k:Nat}(hk:k<4)(hn:(nsM s)[k]'hk<0):imgK labs half ps s (k+1)=imgK labs half ps s k:=by
 rw[Z7K hk];have hg:=Zag (labs:=labs) (half:=half) (ps:=ps) (s:=s) hk;unfold imgT;rw[if_pos hn];obtain⟨h1,h2⟩:=List.getElem?_eq_some_iff.1 hg;rw[<-h2];exact List.set_getElem_self h1
theorem Z7L{labs:List LB}{half:Nat}{ps:List Int}{bq:List Qd}{l:List Sd}{j:Nat}(h:j<l.length):Z4q labs half ps bq (l.take (j+1))=(Z4q labs half ps bq (l.take j)&& (!Z0x ps l[j]||decide (imgQ labs half ps l[j]∈bq))):=by
 unfold Z4q;rw[List.take_succ_eq_append_getElem h,List.all_append];simp
theorem Zah{ins:List (List Sd)}{i k:Nat}{sv:SV}{l:List Sd}(h:i<ins.length)(hk:k=i)(hl:ins[i]=l):setC (setC (inD ins) k 0 (.v sv)) i 0 (.kid 20 ((l.map XP).take l.length))=inD ins:=by
 subst hl;exact Z6h (es:=20) (f:=XP) h hk rfl
theorem Zhm{es:Nat}{rs:List (List SV)}(h:Det (.agg rs.flatten)):Det (.arr es rs):=by
 unfold Det at h⊢;intro η u u' h1 h2;exact h η u u' (Den.flKey h1) (Den.flKey h2)
theorem ZdR{a:Qd}:∀{l:List (Qd×Int)},ixA a l=none->a∉l.map Prod.fst
 | [],_,h=>by simp at h
 |(b,u)::l,hn,h=>by
  unfold ixA at hn;split at hn
  ·cases hn
  ·rename_i hb;have h2:=Option.map_eq_none_iff.1 hn;rcases List.mem_cons.1 h with e|e
   ·exact hb e
   ·exact ZdR h2 e
theorem ZiF{ss:List (List DC)}{i k:Nat}{d:DC}(hk:k=i):ss.modify k (fun row=>row.set 0 d)=setC ss i 0 d:=by subst hk;rfl
theorem ZdS(labs:List LB)(half:Nat)(ps:List Int)(bq:List Qd)(ins:List (List Sd))(nc ng x:Nat)(left count:Int)(hx:x<ins.length)(hlab:labs.length=2*half)(hps:ps.length=half)(hn:labs.length<=67108864)(hfew:(ins[x]'hx).length<=67108864)(hrg:∀s∈(ins[x]'hx),∀n∈nsM s,-1<=n/\n< (half:Int))(hpr:∀y∈ps,-1<=y/\y< (half:Int)):
 Does prog tab 80 9 [.ptr (.loc 0) 0 0 0, .int .i64 (x:Int)] [(7, .deep false 1 (inD ins))] [(0,sBx half left),(1,wFx labs.length nc ins.length ng count),(2, .mp (Z0y bq)),(3, .rows 1 (ps.map Zi)),(5, .rows 1 (labs.map Zb))]
 (fun r O nx=>r= .bool (Z4q labs half ps bq ins[x])/\O=[(7, .deep false 1 (inD ins))]/\nx=9):=by
 refine Does.enter Z1 call80 func80 rfl 80 rfl rfl [.tmp 4] rfl ?_;intro w0 F η0 h0;conv=>whnf
 repeat'((first|(refine FINDD.at (Za9 hx (by omega)) ?_;conv=>whnf)|refine AU ?_|(refine IW ?_ ?_<;>intro h<;>try(exfalso;omega)))<;>conv=>whnf)
 rw[ZiF (i:=x) (by omega),List.length_map];generalize hl:ins[x]=l at hfew hrg⊢;refine LOOP.gok Z1 [0,20,21] [7,9] (X:=Nat) (fun j=>j<=l.length/\Z4q labs half ps bq (l.take j)=true) (fun j=>[(22, .int .i64 (j:Int))]) (fun j=>[]) 10 (fun j=>l.length-j) 0 ⟨by omega,rfl⟩ ?_;conv=>whnf
 refine⟨by exact GOES.cA h0,?_⟩;rintro j ⟨hj,hfj⟩;conv=>whnf
 repeat'((first|refine AU ?_|(refine IW ?_ ?_<;>intro h<;>try(exfalso;omega)))<;>conv=>whnf)
 ·have hjl:j<l.length:=by omega
  have hgj:=ZeP (l:=l) hjl;generalize hs:l[j]=s at hgj;repeat'((first|(refine GET.at (row:=XP s) (by rw[Int.toNat_natCast,Nat.zero_add];exact hgj) ?_;conv=>whnf)|refine AU ?_|(refine IW ?_ ?_<;>intro h<;>try(exfalso;omega)))<;>conv=>whnf)
  refine LOOP.gok Z1 [0,7,20,21,22,29] [7,9] (X:=Nat) (fun k=>k<=4/\∀n∈(nsM s).take k,n<0\/0<=ps.getD n.toNat 0) (fun k=>[(30, .int .i64 (k:Int)),(8, .bool true)]) (fun k=>[(11, .rows 4 ((imgK labs half ps s k).map Zu))]) 12 (fun k=>4-k) 0 ⟨by omega,fun n h=>by simp at h⟩ ?_;conv=>whnf
  refine⟨by rw[ZdQ];exact GOES.cA h0,?_⟩;rintro k ⟨hk,hw⟩;conv=>whnf
  repeat'((first|refine AU ?_|(refine IW ?_ ?_<;>intro h<;>try(exfalso;omega)))<;>conv=>whnf)
  ·have hk4:k< (nsM s).length:=by show k<4;omega
   have hgn:[[SV.int .i64 s.a],[SV.int .i64 s.b],[SV.int .i64 s.c],[SV.int .i64 s.d]][(k:Int).toNat]?=some (Zi (nsM s)[k]):=by
    rw[Int.toNat_natCast];show((nsM s).map Zi)[k]?=_
    rw[List.getElem?_map,List.getElem?_eq_getElem hk4];rfl
   have hnr:=hrg s (by rw[<-hs];exact List.getElem_mem hjl) _ (List.getElem_mem hk4);generalize hnk:(nsM s)[k]=n at hgn hnr
   have wsnoc:(n<0\/0<=ps.getD n.toNat 0)->∀m∈(nsM s).take (k+1),m<0\/0<=ps.getD m.toNat 0:=fun hn' m hm=>by
    rw[List.take_succ_eq_append_getElem hk4,hnk]at hm;rcases List.mem_append.1 hm with h1|h1
    ·exact hw m h1
    ·rw[List.mem_singleton.1 h1];exact hn'
   refine GET.at hgn ?_;conv=>whnf
   repeat'((first|refine AU ?_|(refine IW ?_ ?_<;>intro h<;>try(exfalso;omega)))<;>conv=>whnf)
   ·refine⟨k+1,⟨by omega,wsnoc (.inl h)⟩,by omega,?_⟩;rw[Zfv hk4 (by rw[hnk];exact h)];conv=>whnf
    exact GOES.cA h0
   ·have hn0:n.toNat<ps.length:=by omega
    have hgp:=ZJ (f:=Zi) hn0 rfl;have hpn:=hpr _ (List.getElem_mem hn0);have hpd:ps.getD n.toNat 0=ps[n.toNat]:=by rw[List.getD_eq_getElem?_getD,List.getElem?_eq_getElem hn0];rfl
    generalize ps[n.toNat]'hn0=y at hgp hpn hpd;repeat'((first|(refine GET.at (row:=Zi y) (by rw[Nat.zero_add];exact hgp) ?_;conv=>whnf)|refine AU ?_|(refine IW ?_ ?_<;>intro h<;>try(exfalso;omega)))<;>conv=>whnf)
    ·have hfalse:Z0x ps s=false:=by
      unfold Z0x;rw[List.all_eq_false];refine⟨n,by rw[<-hnk];exact List.getElem_mem hk4,?_⟩;rw[hpd];simp;omega
     repeat'((first|(show DRAWN _ _ _ _ _ _ _;first|refine DRAWN.of (id:=13) Z1 mixed W9 (by kernel_rfl) ?_)|refine ADD.mk (fun _ _=>?_)|refine AD ?_|refine FORK.mk ?_ ?_|refine AU ?_|(refine IW ?_ ?_<;>intro h<;>try(exfalso;omega)))<;>conv=>whnf)
     refine⟨j+1,⟨by omega,by rw[Z7L hjl,hfj,hs];simp[hfalse]⟩,by omega,?_⟩;conv=>whnf
     exact GOES.cA h0
    ·have hlb:((half:Int)+y).toNat<labs.length:=by omega
     have hgl:=ZJ (f:=Zb) hlb rfl;have hwy:IntKind.i64.wrap ((half:Int)+y)=(half:Int)+y:=Z9 (by omega) (by omega);have hgt:((imgK labs half ps s k).map Zu)[k]?=some (Zu ((Z4r s)[k]'hk4)):=by rw[List.getElem?_map,Zag hk4];rfl
     repeat'((first|(show DRAWN _ _ _ _ _ _ _;first|refine DRAWN.of (id:=11) Z1 mixed Zbp (by kernel_rfl) ?_)|refine ADD.mk (fun _ _=>?_)|refine AD ?_|refine FORK.mk ?_ ?_|(refine GET.at (row:=Zb (labs[((half:Int)+y).toNat]'hlb)) (by rw[Nat.zero_add,hwy];exact hgl) ?_;conv=>whnf)|(refine GET.at (row:=Zi y) (by rw[Nat.zero_add];exact hgp) ?_;conv=>whnf)|(refine GET.at (row:=Zu ((Z4r s)[k]'hk4)) (by rw[Int.toNat_natCast];exact hgt) ?_;conv=>whnf)|refine AU ?_|(refine IW ?_ ?_<;>intro h<;>try(exfalso;omega)))<;>conv=>whnf)
     have hst:((imgK labs half ps s k).map Zu).set (k:Int).toNat [.int .i64 ((Z4r s)[k]'hk4).k, .str (labs[((half:Int)+y).toNat]'hlb), .str ((Z4r s)[k]'hk4).y, .str ((Z4r s)[k]'hk4).l]=(imgK labs half ps s (k+1)).map Zu:=by
      rw[Z7K hk4,List.map_set,Int.toNat_natCast];congr 1;unfold imgT;rw[if_neg (by rw[hnk];omega),hnk,hpd,List.getD_eq_getElem?_getD,List.getElem?_eq_getElem hlb];rfl
     rw[hst];refine⟨k+1,⟨by omega,wsnoc (.inr (by rw[hpd];exact h))⟩,by omega,?_⟩;conv=>whnf
     exact GOES.cA h0
  ·have hk4:k=4:=by omega
   subst hk4
   have hwt:Z0x ps s=true:=by
    unfold Z0x;rw[List.all_eq_true];intro n hn;rcases hw n hn with h1|h1
    ·simp[h1]
    ·simp only[Bool.or_eq_true,decide_eq_true_eq];exact .inr h1
   have hky:SV.agg ((imgK labs half ps s 4).map Zu).flatten=KQ.enc (imgQ labs half ps s):=rfl;repeat'((first|(show DRAWN _ _ _ _ _ _ _;first|refine DRAWN.of (id:=13) Z1 mixed W9 (by kernel_rfl) ?_)|refine ADD.mk (fun _ _=>?_)|refine AD ?_|refine FORK.mk ?_ ?_|(refine NEED.mk ⟨rfl,rfl,rfl⟩ ?_;conv=>whnf)|(refine NEED.mk (Zhm (Det.of rfl)) ?_;conv=>whnf)|(refine NEED.mk ⟨KQ.ok (imgQ labs half ps s),Jc KQ intV _⟩ ?_;conv=>whnf)|refine AU ?_|(refine IW ?_ ?_<;>intro h<;>try(exfalso;omega)))<;>conv=>whnf)
   refine FIND.mk (fun i v hf=>?_) (fun hf=>?_)
   ·obtain⟨⟨m,z⟩,hm,he⟩:=Option.map_eq_some_iff.1 ((Z0N KQ intV (imgQ labs half ps s) (bq.map fun q=>(q,(1:Int))) 0).symm.trans hf);obtain⟨q,hq,e⟩:=List.mem_map.1 (List.mem_of_getElem? (Z8s hm));injection e with e1 e2;subst e2;have hin:imgQ labs half ps s∈bq:=e1▸hq;cases he
    clear hf;conv=>whnf
    repeat'((first|(show DRAWN _ _ _ _ _ _ _;first|refine DRAWN.of (id:=13) Z1 mixed W9 (by kernel_rfl) ?_)|refine ADD.mk (fun _ _=>?_)|refine AD ?_|refine FORK.mk ?_ ?_|refine AU ?_|(refine IW ?_ ?_<;>intro h<;>try(exfalso;omega)))<;>conv=>whnf)
    refine⟨j+1,⟨by omega,by rw[Z7L hjl,hfj,hs];simp[hin]⟩,by omega,?_⟩;conv=>whnf
    exact GOES.cA h0
   ·have hm:=Option.map_eq_none_iff.1 ((Z0N KQ intV (imgQ labs half ps s) (bq.map fun q=>(q,(1:Int))) 0).symm.trans hf);have hin:¬imgQ labs half ps s∈bq:=fun h=>ZdR hm (List.mem_map.2 ⟨_,List.mem_map_of_mem h,rfl⟩)
    have hno:Z4q labs half ps bq l=false:=by
     unfold Z4q;rw[List.all_eq_false];exact⟨s,by rw[<-hs];exact List.getElem_mem hjl,by simp[hwt,hin]⟩
    clear hf;conv=>whnf
    repeat'((first|(show DRAWN _ _ _ _ _ _ _;first|refine DRAWN.of (id:=13) Z1 mixed W9 (by kernel_rfl) ?_)|refine ADD.mk (fun _ _=>?_)|refine AD ?_|refine FORK.mk ?_ ?_|refine AU ?_|(refine IW ?_ ?_<;>intro h<;>try(exfalso;omega)))<;>conv=>whnf)
    rw[hno];refine GHO.fin (GHO.putk 7 x 0 9 rfl (Z8Y (es:=20) (f:=XP) hx rfl) rfl rfl (by rw[List.length_map];exact Nat.le_refl _) (by decide)) ?_;rw[Zah hx rfl hl];exact FIN.aA h0 [] (.bool false) [(7, .deep false 1 (inD ins))] ⟨rfl,rfl,rfl⟩
 ·have hje:j=l.length:=by omega
  subst hje;rw[List.take_length]at hfj;rw[hfj];refine GHO.fin (GHO.putk 7 x 0 9 rfl (Z8Y (es:=20) (f:=XP) hx rfl) rfl rfl (by rw[List.length_map];exact Nat.le_refl _) (by decide)) ?_;rw[Zah hx rfl hl];exact FIN.aA h0 [] (.bool true) [(7, .deep false 1 (inD ins))] ⟨rfl,rfl,rfl⟩
open Tryz
def Zbq:Plan:=(Zv [(0,1),(1,1),(2,1),(4,1),(3,2),(5,1),(6,2),(7,1),(8,1),(9,1),(10,1),(11,1),(16,1),(19,1),(20,1),(21,1),(26,1),(27,1),(28,1),(30,1),(12,2),(13,1),(14,1),(15,2),(17,1),(18,2),(22,2),(23,1),(24,1),(25,2),(29,2),(31,1),(32,1),(33,2),(34,1),(35,1)])
def Zbr:Plan:=(Zv [(0,1),(1,1),(2,1),(4,1),(5,1),(6,1),(7,1),(9,1),(10,1),(3,2),(8,2),(11,1),(12,0),(13,1),(14,0)])
def Z5b:Plan:=(Zv [(0,1),(1,1),(2,1),(4,1),(5,1),(6,1),(7,1),(9,1),(3,2),(8,2),(10,1),(11,0),(12,1),(13,0)])
def psM(half:Nat)(ys:List Nat):List Int:=ys.map (fun(y:Nat)=>(y:Int))++List.replicate (half-ys.length) (-1)
def tkM(half:Nat)(ys:List Nat):List Int:=(List.range half).map fun y=>if y∈ys then 1 else 0
def seO(half:Nat)(ys:List Nat)(left:Nat)(ins:List (List Sd)):Hps:=[(0,sBx half left),(3, .rows 1 ((psM half ys).map Zi)),(4, .rows 1 ((tkM half ys).map Zi)),(7, .deep false 1 (inD ins))]
def okM(cl:List Int)(half:Nat)(x y:Nat):Bool:=decide (cl.getD x 0=cl.getD (half+y) 0)
def fitM(labs:List LB)(half:Nat)(bq:List Qd)(ins:List (List Sd))(zs:List Nat):Bool:=Z4q labs half (psM half zs) bq (ins.getD (zs.length-1) [])
theorem ZiG{half y:Nat}(ok:Nat->Bool)(fits:List Nat->Bool)(next:List Nat->Nat->Out)(ys:List Nat)(lf:Nat)(h:y<half):goY ok fits next ys ((List.range half).drop y) lf=if y∈ys\/ok y=false then goY ok fits next ys ((List.range half).drop (y+1)) lf
 else match lf with
  |0=> .over
  |lf+1=>if fits (ys++ [y])=true then(match next (ys++ [y]) lf with
    | .none left'=>goY ok fits next ys ((List.range half).drop (y+1)) left'
    |o=>o)else goY ok fits next ys ((List.range half).drop (y+1)) lf:=by
 rw[List.drop_eq_getElem_cons (by simpa using h),List.getElem_range];rfl
theorem ZdU{half y:Nat}{ys:List Nat}(h:ys.length<half):(psM half ys).set ys.length (y:Int)=psM half (ys++ [y]):=by
 unfold psM;rw[List.set_append_right _ _ (by simp),List.length_map,Nat.sub_self,show half-ys.length=(half-(ys++ [y]).length)+1 by simp;omega,List.replicate_succ,List.set_cons_zero,List.map_append,List.append_assoc]
 rfl
theorem Zhn{half y:Nat}{ys:List Nat}(h:ys.length<half):(psM half (ys++ [y])).set ys.length (-1)=psM half ys:=by
 rw[<-ZdU h,List.set_set];unfold psM;rw[List.set_append_right _ _ (by simp),List.length_map,Nat.sub_self,show half-ys.length=(half-ys.length-1)+1 by omega,List.replicate_succ,List.set_cons_zero]
theorem Zgm{half y:Nat}{ys zs:List Nat}{v:Int}(hv:v=if y∈zs then 1 else 0)(h:∀z,z≠y->(z∈zs<->z∈ys)):(tkM half ys).set y v=tkM half zs:=by
 unfold tkM;apply List.ext_getElem?;intro i;rw[List.getElem?_set,List.length_map,List.length_range,List.getElem?_map,List.getElem?_map];by_cases e:y=i
 ·subst e;by_cases hy:y<half
  ·rw[if_pos rfl,if_pos hy,List.getElem?_range hy,hv];rfl
  ·rw[if_pos rfl,if_neg hy,List.getElem?_eq_none (by simp;omega)];rfl
 ·rw[if_neg e];cases hi:(List.range half)[i]? with
  |none=>rfl
  |some j=>
   have hj:j=i:=by
    have:=List.getElem?_eq_some_iff.1 hi;obtain⟨_,h2⟩:=this;rw[List.getElem_range]at h2;exact h2.symm
   subst hj;simp only[Option.map_some];have:=h j (Ne.symm e);by_cases hm:j∈ys
   ·rw[if_pos hm,if_pos (this.2 hm)]
   ·rw[if_neg hm,if_neg fun h2=>hm (this.1 h2)]
theorem ZiH{half:Nat}{ys:List Nat}(h:∀y∈ys,y<half):∀p∈psM half ys,-1<=p/\p< (half:Int):=by
 intro p hp;unfold psM at hp;rcases List.mem_append.1 hp with h1|h1
 ·obtain⟨y,hy,rfl⟩:=List.mem_map.1 h1;have:=h y hy;omega
 ·rw[List.eq_of_mem_replicate h1];omega
theorem Zho(half:Nat)(ys:List Nat)(left:Nat)(ins:List (List Sd)):renO (Zk [0,1,2,3,4,5,6,7,8] 9) (seO half ys left ins)=seO half ys left ins:=by
 show [(0,_),(3,renH _ (.rows 1 _)),(4,renH _ (.rows 1 _)),(7,renH _ (.deep false 1 _))]=_
 rw[renR,renR,renDp]
 rfl
theorem Z7M(labs:List LB)(half:Nat)(cl:List Int)(bq:List Qd)(ins:List (List Sd))(ng:Nat)(count:Int)(hlab:labs.length=2*half)(hcl:cl.length=2*half)(hins:ins.length=2*half)(hn:labs.length<=67108864)(hI:∀x,x<half->∀h:x<ins.length,ins[x].length<=67108864/\∀s∈ins[x],∀n∈nsM s,-1<=n/\n< (half:Int)):∀(d:Nat) (ys:List Nat) (left:Nat),ys.length+d=half->left<=65536->Ps half (okM cl half) ys->
 DoesE prog tab 55 9 [.ptr (.loc 0) 0 0 0, .int .i64 (ys.length:Int)] (seO half ys left ins) [(1,wFx labs.length cl.length ins.length ng count),(2, .mp (Z0y bq)),(5, .rows 1 (labs.map Zb)),(6, .rows 1 (cl.map Zi))]
 (fun r O nx=>nx=9/\match VU half (okM cl half) (fitM labs half bq ins) d ys left with
   | .found zs m=>r= .bool true/\O=seO half zs m ins
   | .none m=>r= .bool false/\O=seO half ys m ins
   | .over=>False)
 (fun r O nx=>nx=9/\r= .ifc 32 (.int .i64 4)/\O=[]/\VU half (okM cl half) (fitM labs half bq ins) d ys left= .over):=by
 intro d
 induction d with
 |zero=>
  intro ys left hd hl hp;refine DoesE.enter Z1 call55 func55 rfl 103 rfl rfl [.tmp 4] rfl ?_;intro w0 F η0 h0;conv=>whnf
  repeat'((first|refine AU ?_|(refine IW ?_ ?_<;>intro h<;>try(exfalso;omega)))<;>conv=>whnf)
  all_goals first|exact FIN.aA h0 [] (.bool true) (seO half ys left ins) ⟨rfl,rfl,rfl⟩|(exfalso;omega)
 |succ d ih=>
  intro ys left hd hl hp;obtain⟨R,hR⟩:∃R,R=VU half (okM cl half) (fitM labs half bq ins) (d+1) ys left:=⟨_,rfl⟩;rw[<-hR];refine DoesE.enter Z1 call55 func55 rfl 103 rfl rfl [.tmp 4] rfl ?_;intro w0 F η0 h0;conv=>whnf
  repeat'((first|refine AU ?_|(refine IW ?_ ?_<;>intro h<;>try(exfalso;omega)))<;>conv=>whnf)
  refine LOOP.gok Z1 [0,1,15] [] (X:=Nat×Nat) (fun x=>x.1<=half/\x.2<=left/\goY (okM cl half ys.length) (fitM labs half bq ins) (VU half (okM cl half) (fitM labs half bq ins) d) ys ((List.range half).drop x.1) x.2=R) (fun x=>[(16, .int .i64 (x.1:Int))]) (fun x=>seO half ys x.2 ins) 9 (fun x=>half-x.1) (0,left) ⟨by simp,Nat.le_refl _,by rw[hR];rfl⟩ ?_;conv=>whnf
  refine⟨by exact GOES.cA h0,?_⟩;rintro⟨y,lf⟩ ⟨hy,hlf,hg⟩;dsimp only at hy hlf hg⊢;conv=>whnf
  repeat'((first|refine AU ?_|(refine IW ?_ ?_<;>intro h<;>try(exfalso;omega)))<;>conv=>whnf)
  ·have hyh:y<half:=by omega
   have hgt:((tkM half ys).map Zi)[y]?=some (Zi (if y∈ys then 1 else 0)):=by unfold tkM;rw[List.getElem?_map,List.getElem?_map,List.getElem?_range hyh];rfl
   have hx:ys.length<cl.length:=by omega
   have hhy:half+y<cl.length:=by omega
   have hgc:=ZJ (f:=Zi) hx rfl;have hgd:=ZJ (f:=Zi) hhy rfl;have hwy:IntKind.i64.wrap ((half:Int)+(y:Int))=((half+y:Nat):Int):=by rw[Z9 (by omega) (by omega)];omega
   have hga:=ZiG (okM cl half ys.length) (fitM labs half bq ins) (VU half (okM cl half) (fitM labs half bq ins) d) ys lf hyh;rw[hg]at hga;have hok:okM cl half ys.length y=decide (cl[ys.length]=cl[half+y]):=by unfold okM;rw[List.getD_eq_getElem?_getD,List.getD_eq_getElem?_getD,List.getElem?_eq_getElem hx,List.getElem?_eq_getElem hhy];rfl
   repeat'((first|(show DRAWN _ _ _ _ _ _ _;first|refine DRAWN.of (id:=6) Z1 mixed Zbq (by kernel_rfl) ?_)|refine ADD.mk (fun _ _=>?_)|refine AD ?_|refine FORK.mk ?_ ?_|(refine GET.at (row:=Zi (if y∈ys then 1 else 0)) (by rw[Nat.zero_add,Int.toNat_natCast];exact hgt) ?_;conv=>whnf)|(refine GET.at (row:=Zi cl[ys.length]) (by rw[Nat.zero_add,Int.toNat_natCast];exact hgc) ?_;conv=>whnf)|(refine GET.at (row:=Zi cl[half+y]) (by rw[hwy,Nat.zero_add,Int.toNat_natCast];exact hgd) ?_;conv=>whnf)|refine AU ?_|(refine IW ?_ ?_<;>intro h<;>try(exfalso;omega)))<;>conv=>whnf)
   ·have hm:y∈ys:=Decidable.byContradiction fun hm=>by rw[if_neg hm]at h;omega
    refine⟨(y+1,lf),⟨by dsimp only;omega,hlf,?_⟩,by dsimp only;omega,?_⟩
    ·rw[hga,if_pos (.inl hm)]
    dsimp only;conv=>whnf
    exact GOES.cA h0
   ·refine⟨(y+1,lf),⟨by dsimp only;omega,hlf,?_⟩,by dsimp only;omega,?_⟩
    ·rw[hga,if_pos (.inr (hok.trans (decide_eq_false h)))]
    dsimp only;conv=>whnf
    exact GOES.cA h0
   ·have hlz:lf=0:=by omega
    have hny:y∉ys:=fun hm=>by have h7:= ‹(if y∈ys then(1:Int)else 0)<=0›;rw[if_pos hm]at h7;omega
    subst hlz;rw[if_neg (by rw[hok,decide_eq_true ‹cl[ys.length]=cl[half+y]›];simp[hny])]at hga;exact⟨⟨rfl,trivial⟩,FIN.aA h0 [] (.ifc 32 (.int .i64 4)) [] ⟨rfl,rfl,rfl,hga⟩⟩
   ·have hny:y∉ys:=fun hm=>by have h7:= ‹(if y∈ys then(1:Int)else 0)<=0›;rw[if_pos hm]at h7;omega
    obtain⟨m,rfl⟩:∃m,lf=m+1:=⟨lf-1,by omega⟩;have hok1:okM cl half ys.length y=true:=by rw[hok];exact decide_eq_true ‹cl[ys.length]=cl[half+y]›
    rw[if_neg (by rw[hok1];simp[hny])]at hga;dsimp only at hga;have hwm:IntKind.i64.wrap (((m+1:Nat):Int)-1)=(m:Int):=by rw[Z9 (by omega) (by omega)];omega
    rw[hwm];have hpl:ys.length< (psM half ys).length:=by unfold psM;simp;omega
    have hgp:=ZJ (f:=Zi) hpl rfl;repeat'((first|(show DRAWN _ _ _ _ _ _ _;first|refine DRAWN.of (id:=10) Z1 mixed Zbr (by kernel_rfl) ?_)|refine ADD.mk (fun _ _=>?_)|refine AD ?_|refine FORK.mk ?_ ?_|(refine GET.at (row:=Zi (if y∈ys then 1 else 0)) (by rw[Nat.zero_add,Int.toNat_natCast];exact hgt) ?_;conv=>whnf)|(refine GET.at (row:=Zi (psM half ys)[ys.length]) (by rw[Nat.zero_add,Int.toNat_natCast];exact hgp) ?_;conv=>whnf)|refine AU ?_|(refine IW ?_ ?_<;>intro h<;>try(exfalso;omega)))<;>conv=>whnf)
    have hs3:((psM half ys).map Zi).set (0+(ys.length:Int).toNat) [SV.int .i64 (y:Int)]=(psM half (ys++ [y])).map Zi:=by rw[VS (x:=ys.length) (by omega),ZdU (by omega)]
    have hs4:((tkM half ys).map Zi).set (0+(y:Int).toNat) [Yj (Value.int .i64 1)]=(tkM half (ys++ [y])).map Zi:=(VS (x:=y) (v:=1) (by omega)).trans (congrArg (List.map Zi) (Zgm (by simp) (fun z hz=>by simp[hz])));rw[hs3,hs4];have hxi:ys.length<ins.length:=by omega
    obtain⟨hI1,hI2⟩:=hI ys.length (by omega) hxi;have hps:(psM half (ys++ [y])).length=half:=by unfold psM;simp;omega
    have hpr:∀p∈psM half (ys++ [y]),-1<=p/\p< (half:Int):=ZiH (hp.snoc hny hok1 hyh).lt;have hft:=ZdS labs half (psM half (ys++ [y])) bq ins cl.length ng ys.length m count hxi hlab hps hn hI1 hI2 hpr
    have hfm:fitM labs half bq ins (ys++ [y])=Z4q labs half (psM half (ys++ [y])) bq ins[ys.length]:=by
     unfold fitM;rw[show(ys++ [y]).length-1=ys.length by simp,List.getD_eq_getElem?_getD,List.getElem?_eq_getElem hxi];rfl
    rw[<-hfm]at hft;have hpl2:ys.length< (psM half (ys++ [y])).length:=by omega
    have hgp2:=ZJ (f:=Zi) hpl2 rfl;have hgt2:((tkM half (ys++ [y])).map Zi)[y]?=some (Zi 1):=by unfold tkM;rw[List.getElem?_map,List.getElem?_map,List.getElem?_range hyh];simp
    have hb3:((psM half (ys++ [y])).map Zi).set (0+(ys.length:Int).toNat) [Yj (Value.int .i64 (-1))]=(psM half ys).map Zi:=(VS (x:=ys.length) (v:= -1) (by omega)).trans (congrArg (List.map Zi) (Zhn (by omega)));have hb4:((tkM half (ys++ [y])).map Zi).set (0+(y:Int).toNat) [Yj (Value.int .i64 0)]=(tkM half ys).map Zi:=(VS (x:=y) (v:=0) (by omega)).trans (congrArg (List.map Zi) (Zgm (by rw[if_neg hny]) (fun z hz=>by simp[hz])));refine CALLE.calm ?_;refine CALL.aA [0,1,2,3,4,5,6,7,8] (hft) ?_;rintro r O nx ⟨rfl,rfl,rfl⟩;conv=>whnf
    refine IF.mk (fun hf=>?_) (fun hf=>?_)
    ·repeat'((first|refine AU ?_|(refine IW ?_ ?_<;>intro h<;>try(exfalso;omega)))<;>conv=>whnf)
     have ihc:=ih (ys++ [y]) m (by simp;omega) (by omega) (hp.snoc hny hok1 hyh);rw[show((ys++ [y]).length:Int)=IntKind.i64.wrap ((ys.length:Int)+1)by rw[Z9 (by omega) (by omega)];simp]at ihc;have hinv:=Z0w (fits:=fitM labs half bq ins) d (ys++ [y]) m (hp.snoc hny hok1 hyh);rw[if_pos hf]at hga;generalize VU half (okM cl half) (fitM labs half bq ins) d (ys++ [y]) m=Z at ihc hinv hga;refine CALLE.aA [0,1,2,3,4,5,6,7,8] (ihc) ?_ ?_
     ·rintro r O nx ⟨rfl,hq⟩;cases Z with
      |found zs k=>
       obtain⟨rfl,rfl⟩:=hq;conv=>whnf
       repeat'((first|refine AU ?_|(refine IW ?_ ?_<;>intro h<;>try(exfalso;omega)))<;>conv=>whnf)
       exact FIN.aA h0 [] (.bool true) (seO half zs k ins) ⟨rfl,by rw[hga];exact⟨rfl,rfl⟩⟩
      |none k=>
       obtain⟨rfl,rfl⟩:=hq;rw[Zho];conv=>whnf
       have hkm:=hinv.2 k rfl;repeat'((first|(show DRAWN _ _ _ _ _ _ _;first|refine DRAWN.of (id:=13) Z1 mixed Z5b (by kernel_rfl) ?_)|refine ADD.mk (fun _ _=>?_)|refine AD ?_|refine FORK.mk ?_ ?_|(refine GET.at (row:=Zi 1) (by rw[Nat.zero_add,Int.toNat_natCast];exact hgt2) ?_;conv=>whnf)|(refine GET.at (row:=Zi (psM half (ys++ [y]))[ys.length]) (by rw[Nat.zero_add,Int.toNat_natCast];exact hgp2) ?_;conv=>whnf)|refine AU ?_|(refine IW ?_ ?_<;>intro h<;>try(exfalso;omega)))<;>conv=>whnf)
       rw[hb3,hb4];refine⟨(y+1,k),⟨by dsimp only;omega,by dsimp only;omega,hga.symm⟩,by dsimp only;omega,?_⟩;dsimp only;conv=>whnf
       exact GOES.cA h0
      |over=>exact hq.elim
     ·rintro r O nx ⟨rfl,rfl,rfl,rfl⟩;exact⟨⟨rfl,trivial⟩,FIN.aA h0 [] (.ifc 32 (.int .i64 4)) [] ⟨rfl,rfl,rfl,hga⟩⟩
    ·rw[if_neg (by rw[hf];simp)]at hga;repeat'((first|(show DRAWN _ _ _ _ _ _ _;first|refine DRAWN.of (id:=13) Z1 mixed Z5b (by kernel_rfl) ?_)|refine ADD.mk (fun _ _=>?_)|refine AD ?_|refine FORK.mk ?_ ?_|(refine GET.at (row:=Zi 1) (by rw[Nat.zero_add,Int.toNat_natCast];exact hgt2) ?_;conv=>whnf)|(refine GET.at (row:=Zi (psM half (ys++ [y]))[ys.length]) (by rw[Nat.zero_add,Int.toNat_natCast];exact hgp2) ?_;conv=>whnf)|refine AU ?_|(refine IW ?_ ?_<;>intro h<;>try(exfalso;omega)))<;>conv=>whnf)
     rw[hb3,hb4];refine⟨(y+1,m),⟨by dsimp only;omega,by dsimp only;omega,hga.symm⟩,by dsimp only;omega,?_⟩;dsimp only;conv=>whnf
     exact GOES.cA h0
  ·have hRn:R= .none lf:=by rw[<-hg,List.drop_of_length_le (by rw[List.length_range];omega)];rfl
   rw[hRn];exact FIN.aA h0 [] (.bool false) (seO half ys lf ins) ⟨rfl,rfl,rfl⟩
def ins2(a b:List Qd):List (List Sd):=b.foldl (putS (ixF (Z0 a).length (Z0 b))) (V5 a++List.replicate (Z0 b).length [])
theorem Z0A(a b:List Qd):(ins2 a b).length=(Z0 a).length+(Z0 b).length:=by
 unfold ins2 V5;rw[X9,List.length_append,X9,List.length_replicate,List.length_replicate]
theorem Z0B{l:List Qd}{q:Qd}{t:Tm}(hq:q∈l)(ht:t∈ZG q)(hk:t.k=2):t.t∈Z0 l:=by
 refine(WF _ _).2 (List.mem_flatMap.2 ⟨q,hq,?_⟩);have hb:t.t∈X3 t:=by unfold X3;rw[if_pos hk];exact List.mem_singleton_self _
 unfold ZG at ht;unfold Yx;simp only[List.mem_cons,List.not_mem_nil,or_false]at ht;simp only[List.mem_append];rcases ht with rfl|rfl|rfl|rfl
 ·exact .inl (.inl (.inl hb))
 ·exact .inl (.inl (.inr hb))
 ·exact .inl (.inr hb)
 ·exact .inr hb
theorem Zbs{c:Int}{A:List LB}{x:LB}(h:x∈A):ixF c A x=c+(A.idxOf x:Nat):=by unfold ixF;rw[if_pos h]
theorem Z1z{c:Int}(hc:0<=c)(l:List Qd):∀q∈l,∀n∈ownM (ixF c (Z0 l)) q,c<=n/\n<c+((Z0 l).length:Int):=by
 intro q hq n hn;obtain⟨t,ht,hk,rfl⟩:=own_mem.1 hn;have hm:=Z0B hq ht hk;have:=List.idxOf_lt_length_of_mem hm;rw[Zbs hm];omega
theorem Ja(l:List Qd):(V5 l).length=(Z0 l).length:=by unfold V5;rw[X9,List.length_replicate]
theorem Z91{a b:List Qd}{x:Nat}(hx:x< (Z0 a).length):(ins2 a b).getD x []=(a.filter fun q=>decide ((x:Int)∈ownM (ixF 0 (Z0 a)) q)).map (sdM (ixF 0 (Z0 a))):=by
 have h1:x< (V5 a++List.replicate (Z0 b).length []).length:=by rw[List.length_append,Ja];omega
 have h2:x< (ins2 a b).length:=by rw[Z0A];omega
 have h3:x< (V5 a).length:=by rw[Ja];exact hx
 rw[List.getD_eq_getElem?_getD,List.getElem?_eq_getElem h2,Option.getD_some];have e1:=UL (f:=ixF (Z0 a).length (Z0 b)) (l:=b) h1 h2 fun q hq n hn=>by have:=Z1z (c:=(Z0 a).length) (by omega) b q hq n hn;omega
 have hb:b.filter (fun q=>decide ((x:Int)∈ownM (ixF (Z0 a).length (Z0 b)) q))=[]:=by
  rw[List.filter_eq_nil_iff];intro q hq;simp only[decide_eq_true_eq];intro hn;have:=Z1z (c:=(Z0 a).length) (by omega) b q hq _ hn;omega
 rw[hb,List.map_nil,List.append_nil,List.getElem_append_left h3]at e1;refine e1.trans ?_;have h4:x< (List.replicate (Z0 a).length ([]:List Sd)).length:=by rw[List.length_replicate];exact hx
 have e2:=UL (f:=ixF 0 (Z0 a)) (l:=a) h4 h3 fun q hq n hn=>(Z1z (c:=0) (by omega) a q hq n hn).1;refine e2.trans ?_;rw[List.getElem_replicate,List.nil_append]
def prsM(A B:List LB)(zs:List Nat):List Pr:=List.zipWith (fun x y=>(x,B.getD y [])) A zs
theorem Z92{A B:List LB}{zs:List Nat}(h:zs.length<=A.length):(prsM A B zs).length=zs.length:=by unfold prsM;rw[List.length_zipWith];omega
theorem Zfx{A B:List LB}{zs:List Nat}{y:Nat}(h:zs.length<A.length):prsM A B (zs++ [y])=prsM A B zs++ [(A[zs.length],B.getD y [])]:=by
 induction A generalizing zs with
 |nil=>simp at h
 |cons a A ih=>
  cases zs with
  |nil=>simp[prsM]
  |cons z zs=>
   have:=ih (zs:=zs) (by simpa using h);simp only[prsM,List.cons_append,List.zipWith_cons_cons,List.length_cons,List.getElem_cons_succ]at this⊢;rw[this]
theorem Z7N{p:Pr}{ps:List Pr}{s:LB}:toOf (p::ps) s=if p.1=s then some p.2 else toOf ps s:=by
 unfold toOf;rw[List.find?_cons];by_cases h:p.1=s
 ·simp[h]
 ·simp[h]
theorem ZiI{A B:List LB}(hn:A.Nodup){zs:List Nat}{i:Nat}(hi:i<zs.length)(hA:i<A.length):toOf (prsM A B zs) A[i]=some (B.getD zs[i] []):=by
 induction A generalizing zs i with
 |nil=>simp at hA
 |cons a A ih=>
  cases zs with
  |nil=>simp at hi
  |cons z zs=>
   have hd:=List.nodup_cons.1 hn;simp only[prsM,List.zipWith_cons_cons,Z7N];cases i with
   |zero=>exact if_pos rfl
   |succ i=>
    have hA':i<A.length:=by simpa using hA
    have hne:¬a=A[i]:=fun e=>hd.1 (e▸List.getElem_mem hA');simp only[List.getElem_cons_succ];rw[if_neg hne];exact ih hd.2 (by simpa using hi) hA'
theorem ZiJ{A B:List LB}{zs:List Nat}{s:LB}(h:∀i (hi:i<A.length),i<zs.length->A[i]≠s):toOf (prsM A B zs) s=none:=by
 induction A generalizing zs with
 |nil=>simp[prsM,toOf]
 |cons a A ih=>
  cases zs with
  |nil=>simp[prsM,toOf]
  |cons z zs=>
   simp only[prsM,List.zipWith_cons_cons,Z7N];rw[if_neg (show ¬a=s from h 0 (by simp) (by simp))];exact ih fun i hi hz=>h (i+1) (by simpa using hi) (by simpa using hz)
def renT(ps:List Pr)(t:Tm):Tm:=if t.k=2 then{t with t:=(toOf ps t.t).getD []}else t
def renQ(ps:List Pr)(q:Qd):Qd:=⟨renT ps q.s,renT ps q.p,renT ps q.o,renT ps q.g⟩
def inQ(last:LB)(q:Qd):Bool:=(ZG q).any fun t=>decide (t.k=2)&&decide (t.t=last)
def allQ(ps:List Pr)(q:Qd):Bool:=(ZG q).all fun t=>!decide (t.k=2)||(toOf ps t.t).isSome
def Z3Z(ps:List Pr)(last:LB)(bq:List Qd)(q:Qd):Bool:=inQ last q&&allQ ps q&&!decide (renQ ps q∈bq)
theorem ZdV{half:Nat}{zs:List Nat}{i:Nat}(hi:i<half)(hz:zs.length<=half):(psM half zs).getD i 0=if h:i<zs.length then(zs[i]:Int)else-1:=by
 unfold psM;rw[List.getD_eq_getElem?_getD];by_cases h:i<zs.length
 ·rw[dif_pos h,List.getElem?_append_left (by rw[List.length_map];exact h),List.getElem?_map,List.getElem?_eq_getElem h];rfl
 ·rw[dif_neg h,List.getElem?_append_right (by rw[List.length_map];omega),List.length_map,List.getElem?_replicate,if_pos (by omega)];rfl
section
variable {a b:List Qd}{zs:List Nat}(hAB:(Z0 b).length=(Z0 a).length)(hz:zs.length<=(Z0 a).length)
include hz in
theorem Z6m{q:Qd}(hq:q∈a){t:Tm}(ht:t∈ZG q):(decide (numM (ixF 0 (Z0 a)) t<0)||decide (0<=(psM (Z0 a).length zs).getD (numM (ixF 0 (Z0 a)) t).toNat 0))=(!decide (t.k=2)||(toOf (prsM (Z0 a) (Z0 b) zs) t.t).isSome):=by
 have hnd:(Z0 a).Nodup:=J9 triL (YY triL _);unfold numM;by_cases hk:t.k=2
 ·have hm:=Z0B hq ht hk;have hi:=List.idxOf_lt_length_of_mem hm;rw[if_pos hk,Zbs hm,show(0+(((Z0 a).idxOf t.t:Nat):Int)).toNat=(Z0 a).idxOf t.t by omega,ZdV hi hz];simp only[hk,decide_true,Bool.not_true,Bool.false_or];rw[decide_eq_false (by omega),Bool.false_or];split
  ·rename_i h;have:=ZiI (B:=Z0 b) hnd h hi;rw[List.getElem_idxOf hi]at this;rw[this];simp
  ·rename_i h;rw[ZiJ]
   ·simp
   ·intro i hil hiz e;rw[<-e,hnd.idxOf_getElem i hil]at h;omega
 ·rw[if_neg hk];simp[hk]
include hz in
theorem Zfy{q:Qd}(hq:q∈a):Z0x (psM (Z0 a).length zs) (sdM (ixF 0 (Z0 a)) q)=allQ (prsM (Z0 a) (Z0 b) zs) q:=by
 unfold Z0x allQ nsM sdM ZG;simp only[List.all_cons,List.all_nil];rw[Z6m (b:=b) hz hq (t:=q.s) (by simp[ZG]),Z6m (b:=b) hz hq (t:=q.p) (by simp[ZG]),Z6m (b:=b) hz hq (t:=q.o) (by simp[ZG]),Z6m (b:=b) hz hq (t:=q.g) (by simp[ZG])]
include hz in
theorem Zfz{q:Qd}(hq:q∈a){t:Tm}(ht:t∈ZG q)(hw:t.k=2->(toOf (prsM (Z0 a) (Z0 b) zs) t.t).isSome=true):imgT (Z0 a++Z0 b) (Z0 a).length (psM (Z0 a).length zs) t (numM (ixF 0 (Z0 a)) t)=renT (prsM (Z0 a) (Z0 b) zs) t:=by
 have hnd:(Z0 a).Nodup:=J9 triL (YY triL _);unfold imgT renT numM;by_cases hk:t.k=2
 ·have hm:=Z0B hq ht hk;have hi:=List.idxOf_lt_length_of_mem hm;rw[if_pos hk,if_pos hk,Zbs hm,if_neg (by omega),show(0+(((Z0 a).idxOf t.t:Nat):Int)).toNat=(Z0 a).idxOf t.t by omega,ZdV hi hz];split
  ·rename_i h;have:=ZiI (B:=Z0 b) hnd h hi;rw[List.getElem_idxOf hi]at this;rw[this,Option.getD_some];congr 1;rw[show(((Z0 a).length:Int)+(zs[(Z0 a).idxOf t.t]:Nat)).toNat=(Z0 a).length+zs[(Z0 a).idxOf t.t]by omega];rw[List.getD_eq_getElem?_getD,List.getElem?_append_right (by omega),Nat.add_sub_cancel_left,<-List.getD_eq_getElem?_getD]
  ·rename_i h;have:=hw hk;rw[ZiJ]at this
   ·simp at this
   ·intro i hil hiz e;rw[<-e,hnd.idxOf_getElem i hil]at h;omega
 ·rw[if_neg hk,if_pos (by omega),if_neg hk]
include hz in
theorem ZiK{q:Qd}(hq:q∈a)(hw:allQ (prsM (Z0 a) (Z0 b) zs) q=true):imgQ (Z0 a++Z0 b) (Z0 a).length (psM (Z0 a).length zs) (sdM (ixF 0 (Z0 a)) q)=renQ (prsM (Z0 a) (Z0 b) zs) q:=by
 unfold allQ at hw;rw[List.all_eq_true]at hw;have h:∀t∈ZG q,t.k=2->(toOf (prsM (Z0 a) (Z0 b) zs) t.t).isSome=true:=fun t ht hk=>by simpa[hk]using hw t ht
 unfold imgQ renQ sdM;simp only;rw[Zfz (b:=b) hz hq (t:=q.s) (by simp[ZG]) (h _ (by simp[ZG])),Zfz (b:=b) hz hq (t:=q.p) (by simp[ZG]) (h _ (by simp[ZG])),Zfz (b:=b) hz hq (t:=q.o) (by simp[ZG]) (h _ (by simp[ZG])),Zfz (b:=b) hz hq (t:=q.g) (by simp[ZG]) (h _ (by simp[ZG]))]
theorem Zjj{q:Qd}(hq:q∈a){x:Nat}(hx:x< (Z0 a).length):decide ((x:Int)∈ownM (ixF 0 (Z0 a)) q)=inQ (Z0 a)[x] q:=by
 have hnd:(Z0 a).Nodup:=J9 triL (YY triL _);unfold inQ;rw[Bool.eq_iff_iff,decide_eq_true_iff,own_mem,List.any_eq_true];constructor
 ·rintro⟨t,ht,hk,he⟩;have hm:=Z0B hq ht hk;have hi:=List.idxOf_lt_length_of_mem hm;rw[Zbs hm]at he;have hx':(Z0 a).idxOf t.t=x:=by omega
  subst hx';exact⟨t,ht,by simp[hk,List.getElem_idxOf hi]⟩
 ·rintro⟨t,ht,he⟩;simp only[Bool.and_eq_true,decide_eq_true_eq]at he;refine⟨t,ht,he.1,?_⟩;rw[he.2,Zbs (List.getElem_mem hx),hnd.idxOf_getElem x hx];omega
include hz in
theorem ZiL{x:Nat}(hx:zs.length=x+1):fitM (Z0 a++Z0 b) (Z0 a).length b (ins2 a b) zs=!(a.any (Z3Z (prsM (Z0 a) (Z0 b) zs) ((Z0 a)[x]'(by omega)) b)):=by
 have hxl:x< (Z0 a).length:=by omega
 unfold fitM;rw[hx,Nat.add_sub_cancel,Z91 hxl];unfold Z4q;rw[List.all_map,List.all_filter,List.not_any_eq_all_not]
 have key:∀q∈a,(!decide ((x:Int)∈ownM (ixF 0 (Z0 a)) q)||((fun s=>!Z0x (psM (Z0 a).length zs) s||decide (imgQ (Z0 a++Z0 b) (Z0 a).length (psM (Z0 a).length zs) s∈b))∘sdM (ixF 0 (Z0 a))) q)=!Z3Z (prsM (Z0 a) (Z0 b) zs) (Z0 a)[x] b q:=by
  intro q hq;unfold Z3Z;rw[Zjj hq hxl,Function.comp_apply,Zfy (b:=b) hz hq];cases hw:allQ (prsM (Z0 a) (Z0 b) zs) q with
  |false=>simp
  |true=>rw[ZiK hz hq hw];cases inQ (Z0 a)[x] q<;>simp
 rw[Bool.eq_iff_iff,List.all_eq_true,List.all_eq_true];exact⟨fun h q hq=>by rw[<-key q hq];exact h q hq,fun h q hq=>by rw[key q hq];exact h q hq⟩
end
theorem ZfA{x:Tm}(h:X7 x=0):TmOK 1048576 x:=by
 have h1:=Zdd h;have h2:=Zb1 h;unfold TmOK I64;omega
theorem Zjk{q:Qd}(h:Jm q=0):TmOK 1048576 q.s/\TmOK 1048576 q.p/\TmOK 1048576 q.o/\TmOK 1048576 q.g:=by
 obtain⟨h1,h2,h3,h4,_⟩:=WN h;refine⟨ZfA h1,ZfA h2,ZfA h3,?_⟩;rcases h4 with e|e
 ·rw[e];unfold TmOK I64 Zx;decide
 ·exact ZfA e
structure DsOK(l:List Qd):Prop where
 rise:Rise Ju l
 few:l.length<=1048576
 ck:∀q∈l,Jm q=0
theorem ZiM{l:List Qd}(h:(Xy l).2=0):DsOK l:=⟨(Z54 h).1,(Z54 h).2,Z7z h⟩
theorem YU{l:List Qd}(h:DsOK l):(Z0 l).length<=4194304:=by
 have hAl:(Z0 l).length<=l.length*4:=Nat.le_trans (Z8n _) (Z21 _ WJ _);have:=h.few;omega
theorem Zhp{a b:List Qd}{x:Nat}(hx:(Z0 a).length<=x)(hx2:x< (ins2 a b).length):(ins2 a b)[x]=(b.filter fun q=>decide ((x:Int)∈ownM (ixF (Z0 a).length (Z0 b)) q)).map (sdM (ixF (Z0 a).length (Z0 b))):=by
 have hl:=Z0A a b;have h1:x< (V5 a++List.replicate (Z0 b).length []).length:=by rw[List.length_append,Ja,List.length_replicate];omega
 have e1:=UL (f:=ixF (Z0 a).length (Z0 b)) (l:=b) h1 hx2 fun q hq n hn=>by have:=Z1z (c:=(Z0 a).length) (by omega) b q hq n hn;omega
 refine e1.trans ?_;rw[List.getElem_append_right (by rw[Ja];exact hx),List.getElem_replicate,List.nil_append]
theorem Zgn{c:Int}(hc:0<=c){l:List Qd}{q:Qd}(hq:q∈l){t:Tm}(ht:t∈ZG q): -1<=numM (ixF c (Z0 l)) t/\numM (ixF c (Z0 l)) t<c+((Z0 l).length:Int):=by
 unfold numM;split
 ·rename_i hk;have hm:=Z0B hq ht hk;have:=List.idxOf_lt_length_of_mem hm;rw[Zbs hm];omega
 ·omega
theorem ZiN{c:Int}(hc:0<=c){l:List Qd}(h:DsOK l){n:Nat}(hn:c+((Z0 l).length:Int)<=n){q:Qd}(hq:q∈l):SdOK 1048576 n (sdM (ixF c (Z0 l)) q):=by
 obtain⟨t1,t2,t3,t4⟩:=Zjk (h.ck q hq);have k:∀t∈ZG q,-1<=numM (ixF c (Z0 l)) t/\numM (ixF c (Z0 l)) t< (n:Int):=fun t ht=>by have:=Zgn hc hq ht;omega
 exact⟨t1,t2,t3,t4,k _ (by simp[ZG]),k _ (by simp[ZG]),k _ (by simp[ZG]),k _ (by simp[ZG])⟩
theorem wok2{a b:List Qd}(ha:DsOK a)(hb:DsOK b):WOK (List.replicate ((Z0 a).length+(Z0 b).length) 0) (ins2 a b):=by
 have hl:=Z0A a b;have h1:=YU ha;have h2:=YU hb
 have hg:∀m∈ins2 a b,(∃p,m=(a.filter p).map (sdM (ixF 0 (Z0 a))))\/∃p,m=(b.filter p).map (sdM (ixF (Z0 a).length (Z0 b))):=by
  intro m hm;obtain⟨x,hx,rfl⟩:=List.mem_iff_getElem.1 hm;by_cases hlo:x< (Z0 a).length
  ·have:=Z91 (a:=a) (b:=b) hlo;rw[List.getD_eq_getElem?_getD,List.getElem?_eq_getElem hx,Option.getD_some]at this;exact .inl ⟨_,this⟩
  ·exact .inr ⟨_,Zhp (by omega) hx⟩
 refine⟨by rw[hl,List.length_replicate],fun c hc=>by rw[List.eq_of_mem_replicate hc];omega,fun m hm s hs=>?_,fun m hm=>?_,by rw[List.length_replicate];omega⟩
 ·rw[List.length_replicate];rcases hg m hm with⟨p,rfl⟩|⟨p,rfl⟩
  ·obtain⟨q,hq,rfl⟩:=List.mem_map.1 hs;exact ZiN (by omega) ha (by omega) (List.mem_filter.1 hq).1
  ·obtain⟨q,hq,rfl⟩:=List.mem_map.1 hs;exact ZiN (by omega) hb (by omega) (List.mem_filter.1 hq).1
 ·rcases hg m hm with⟨p,rfl⟩|⟨p,rfl⟩
  ·rw[List.length_map];exact Nat.le_trans (List.length_filter_le _ _) ha.few
  ·rw[List.length_map];exact Nat.le_trans (List.length_filter_le _ _) hb.few
def gndM(l:List Qd):List Qd:=l.filter fun q=>(ZG q).all fun t=>!decide (t.k=2)
theorem Z7O(f:LB->Int)(l:List Qd):VC f l=gndM l:=by
 unfold VC gndM;congr 1;funext q;rw[Bool.eq_iff_iff,decide_eq_true_iff,List.all_eq_true];constructor
 ·intro h t ht;refine Decidable.byContradiction fun hk=>?_;have hk:t.k=2:=by simpa using hk
  have:f t.t∈ownM f q:=own_mem.2 ⟨t,ht,hk,rfl⟩;rw[h]at this;cases this
 ·intro h;refine List.eq_nil_iff_forall_not_mem.2 fun n hn=>?_;obtain⟨t,ht,hk,_⟩:=own_mem.1 hn;have:=h t ht;simp[hk]at this
def Z93(F:List Int)(n:Nat):Prop:=∀k:Int,(F.take n).count k=(F.drop n).count k
def leftM(budget:Int):Nat:=(max 0 (min budget 65536)).toNat
def Zai(a b:List Qd):Prop:=a.length=b.length/\(Z0 a).length=(Z0 b).length/\gndM a=gndM b
open Classical in
noncomputable def ZdW (a b:List Qd)(F:List Int)(budget:Int):List Pr×Int:=
 if Z93 F (Z0 a).length then
  match VU (Z0 a).length (okM F (Z0 a).length) (fitM (Z0 a++Z0 b) (Z0 a).length b (ins2 a b)) (Z0 a).length [] (leftM budget)with
  | .found zs _=>(prsM (Z0 a) (Z0 b) zs,0)
  | .none _=>([],140)
  | .over=>([],4)
 else([],140)
def ct0(n:Nat):Int:=if(n:Int)<1 then(n:Int)else 1
def FindIs(a b:List Qd)(budget:Int)(ps:List Pr)(e:Int):Prop:=
 (Vn a b≠0/\ps=[]/\e=Vn a b)\/
 (Vn a b=0/\¬Zai a b/\ps=[]/\e=140)\/
 (Vn a b=0/\Zai a b/\∃F c,Settles (ins2 a b) (List.replicate ((Z0 a).length+(Z0 b).length) 0) (ct0 ((Z0 a).length+(Z0 b).length)) F c/\(ps,e)=ZdW a b F budget)
theorem FindIs.det{a b:List Qd}{budget:Int}{ps ps':List Pr}{e e':Int}(h:FindIs a b budget ps e)(h':FindIs a b budget ps' e'):ps'=ps/\e'=e:=by
 rcases h with⟨h1,rfl,rfl⟩|⟨h1,hn,rfl,rfl⟩|⟨h1,hs1,F,c,hs,he⟩
 ·rcases h' with⟨_,rfl,rfl⟩|⟨h2,_⟩|⟨h2,_⟩
  ·exact⟨rfl,rfl⟩
  ·exact(h1 h2).elim
  ·exact(h1 h2).elim
 ·rcases h' with⟨h2,_⟩|⟨_,_,rfl,rfl⟩|⟨_,h2,_⟩
  ·exact(h2 h1).elim
  ·exact⟨rfl,rfl⟩
  ·exact(hn h2).elim
 ·rcases h' with⟨h2,_⟩|⟨_,h2,_⟩|⟨_,_,F',c',hs',he'⟩
  ·exact(h2 h1).elim
  ·exact(h2 hs1).elim
  ·obtain⟨rfl,rfl⟩:=hs.det hs';rw[<-he]at he';injection he' with h3 h4;exact⟨h3,h4⟩
theorem Z40{a b:List Qd}(h:Vn a b=0):DsOK a/\DsOK b:=by
 unfold Vn at h;split at h
 ·rename_i h1;exact(h1 h).elim
 ·rename_i h1;exact⟨ZiM (by simpa using h1),ZiM h⟩
def dfM(F:List Int)(n x k:Nat):Int:=(((F.take x).take n).count (k:Int):Int)-(((F.take x).drop n).count (k:Int):Int)
def dfL(F:List Int)(n c x:Nat):List Int:=(List.range c).map (dfM F n x)
theorem Z94(F:List Int)(n c x:Nat):(dfL F n c x).length=c:=by simp[dfL]
theorem Zaj(F:List Int)(n c:Nat):dfL F n c 0=List.replicate c 0:=by
 unfold dfL dfM;rw[List.eq_replicate_iff];simp
theorem ZdX{F:List Int}{n x:Nat}(k:Nat)(h:x<F.length):dfM F n (x+1) k=dfM F n x k+(if F[x]=(k:Int)then(if x<n then 1 else-1)else 0):=by
 have hl:(F.take x).length=x:=by rw[List.length_take];omega
 unfold dfM;rw[List.take_succ_eq_append_getElem h,List.take_append,List.drop_append,hl,List.count_append,List.count_append];by_cases hx:x<n
 ·rw[if_pos hx,show n-x=(n-x-1)+1 by omega,List.take_succ_cons,List.take_nil,List.drop_succ_cons,List.drop_nil,List.count_cons,List.count_nil];by_cases e:F[x]=(k:Int)
  ·simp[e];omega
  ·simp[e]
 ·rw[if_neg hx,show n-x=0 by omega,List.take_zero,List.drop_zero,List.count_nil,List.count_cons,List.count_nil];by_cases e:F[x]=(k:Int)
  ·simp[e];omega
  ·simp[e]
theorem Z6n{F:List Int}{n c x:Nat}(h:x<F.length)(hf:0<=F[x]/\F[x]< (c:Int)){v:Int}(hv:v=dfM F n x F[x].toNat+(if x<n then 1 else-1)):(dfL F n c x).set F[x].toNat v=dfL F n c (x+1):=by
 apply List.ext_getElem?;intro i;rw[List.getElem?_set];unfold dfL;simp only[List.length_map,List.length_range,List.getElem?_map];by_cases hi:F[x].toNat=i
 ·subst hi;rw[if_pos rfl,if_pos (by omega),List.getElem?_range (by omega),Option.map_some,ZdX _ h,if_pos (by omega),hv]
 ·rw[if_neg hi];by_cases hic:i<c
  ·rw[List.getElem?_range hic,Option.map_some,Option.map_some,ZdX _ h,if_neg (by omega),Int.add_zero]
  ·rw[List.getElem?_eq_none (by simp;omega)];rfl
theorem Zgo{F:List Int}{n c x k:Nat}(h:k<c):(dfL F n c x)[k]?=some (dfM F n x k):=by unfold dfL;rw[List.getElem?_map,List.getElem?_range h];rfl
theorem Zak(F:List Int)(n x k:Nat): -(F.length:Int)<=dfM F n x k/\dfM F n x k<=F.length:=by
 have h1:((F.take x).take n).count (k:Int)<=F.length:=Nat.le_trans List.count_le_length (by simp;omega);have h2:((F.take x).drop n).count (k:Int)<=F.length:=Nat.le_trans List.count_le_length (by simp;omega);unfold dfM;omega
theorem Zal{F:List Int}{n c:Nat}(hf:∀x∈F,0<=x/\x< (c:Int)):(∀d∈dfL F n c F.length,d=0)<->Z93 F n:=by
 unfold dfL;constructor
 ·intro h k;by_cases hk:0<=k/\k< (c:Int)
  ·have:=h (dfM F n F.length k.toNat) (List.mem_map.2 ⟨k.toNat,List.mem_range.2 (by omega),rfl⟩);unfold dfM at this;rw[List.take_length,show((k.toNat:Nat):Int)=k by omega]at this;omega
  ·rw[List.count_eq_zero_of_not_mem fun hm=>hk (hf k (List.mem_of_mem_take hm)),List.count_eq_zero_of_not_mem fun hm=>hk (hf k (List.mem_of_mem_drop hm))]
 ·intro h d hd;obtain⟨k,_,rfl⟩:=List.mem_map.1 hd;unfold dfM;rw[List.take_length,h k];omega
theorem ZfB{A B:List LB}{zs:List Nat}{y:Nat}(hB:B.Nodup)(hz:∀z∈zs,z<B.length)(hl:zs.length<=A.length)(hy:y<B.length):(prsM A B zs).any (fun p=>decide (p.2=B[y]))=decide (y∈zs):=by
 induction A generalizing zs with
 |nil=>
  have:zs=[]:=List.length_eq_zero_iff.1 (by simpa using hl);subst this;simp[prsM]
 |cons a A ih=>
  cases zs with
  |nil=>simp[prsM]
  |cons z zs=>
   have hz0:=hz z (List.mem_cons_self ..);have:=ih (zs:=zs) (fun w hw=>hz w (List.mem_cons_of_mem _ hw)) (by simpa using hl);unfold prsM at this⊢;rw[List.zipWith_cons_cons,List.any_cons,this,List.getD_eq_getElem?_getD,List.getElem?_eq_getElem hz0,Option.getD_some];by_cases e:z=y
   ·subst e;simp
   ·have:¬B[z]=B[y]:=fun h=>by have h2:=hB.idxOf_getElem z hz0;rw[h,hB.idxOf_getElem y hy]at h2;exact e h2.symm
    simp[this,Ne.symm e]
open Tryz
def gRow(l:List Qd):List DC:=[.kid 16 (l.map Zj)]
def gD(gs:List (List Qd)):List (List DC):=gs.map gRow
theorem Ze1:∀gs:List (List Qd),ZH (gD gs)=true
 | []=>rfl
 |l::gs=>by simp only[gD,List.map_cons,gRow,ZH,YZ,Uh,Z5D,Bool.and_self,Bool.true_and];exact Ze1 gs
instance {gs:List (List Qd)}:PlD (gD gs):=⟨Ze1 gs⟩
theorem ZiO(gs:List (List Qd))(l:List Qd):gD gs++ [gRow l]=gD (gs++ [l]):=by simp[gD]
theorem Ze2{f:LB->Int}{l:List Qd}{I J:List (List Sd)}(h:∀q∈l,∀n∈ownM f q,0<=n/\n< (I.length:Int)):l.foldl (putS f) (I++J)=l.foldl (putS f) I++J:=by
 induction l generalizing I with
 |nil=>rfl
 |cons q l ih=>
  have hq:=h q (List.mem_cons_self ..)
  have step:∀(L:List Int) (K:List (List Sd)),K.length=I.length->(∀n∈L,0<=n/\n< (I.length:Int))->L.foldl (putN (sdM f q)) (K++J)=L.foldl (putN (sdM f q)) K++J:=by
   intro L
   induction L with
   |nil=>intro K _ _;rfl
   |cons n L ihL=>
    intro K hK hL;have hn:=hL n (List.mem_cons_self ..);rw[List.foldl_cons,List.foldl_cons]
    have e:putN (sdM f q) (K++J) n=putN (sdM f q) K n++J:=by
     unfold putN;apply List.ext_getElem?;intro i;rw[List.getElem?_modify,List.getElem?_append,List.getElem?_append,List.length_modify,List.getElem?_modify];by_cases hi:i<K.length
     ·rw[if_pos hi,if_pos hi]
     ·rw[if_neg hi,if_neg hi];simp[show ¬n.toNat=i by omega]
    rw[e];exact ihL _ (by rw[Z5J];exact hK) fun m hm=>hL m (List.mem_cons_of_mem _ hm)
  rw[List.foldl_cons,List.foldl_cons];have e:putS f (I++J) q=putS f I q++J:=step _ _ rfl hq;rw[e];exact ih fun r hr n hn=>by rw[Z5K];exact h r (List.mem_cons_of_mem _ hr) n hn
theorem Z42{a:List Qd}(ha:DsOK a):∀m∈V5 a,m.length<=1048576:=by
 intro m hm;obtain⟨x,hx,rfl⟩:=List.mem_iff_getElem.1 hm;have hx2:x< (List.replicate (Z0 a).length ([]:List Sd)).length:=by rw[List.length_replicate,<-Ja];exact hx
 have e:=UL (f:=ixF 0 (Z0 a)) (l:=a) hx2 hx fun q hq n hn=>(Z1z (c:=0) (by omega) a q hq n hn).1;rw[show(V5 a)[x]=_ from e,List.getElem_replicate,List.nil_append,List.length_map];exact Nat.le_trans (List.length_filter_le _ _) ha.few
def w2Hp(k:Nat)(labs:List LB)(cls:List Int)(ins:List (List Sd))(gs:List (List Qd))(count:Int):Hps:=
 [(k, .box [.sl (.loc (k+1)) 0 1 labs.length none, .sl (.loc (k+2)) 0 1 cls.length none, .sl (.loc (k+3)) 0 1 ins.length none, .sl (.loc (k+4)) 0 1 gs.length none, .int .i64 count]),(k+1, .rows 1 (labs.map Zb)),(k+2, .rows 1 (cls.map Zi)),(k+3, .deep false 1 (inD ins)),(k+4, .deep false 1 (gD gs))]
theorem ZiP(gs:List (List Qd)){n:Nat}{k:Nat}{T:Tab}{e:TypeId}(hT:appV T e (.sl (.loc k) 0 16 n none)= .v (.sl (.loc k) 0 16 n none)):(gD gs).take gs.length++List.map (fun row=>row.map (appV T e)) (List.take 1 (List.drop 0 [[.sl (.loc k) 0 16 n none]]))=gD gs++ [[.v (.sl (.loc k) 0 16 n none)]]:=by
 rw[List.take_of_length_le (by simp[gD])];simp only[List.map_cons,List.map_nil,List.drop_zero,List.take_succ_cons,List.take_zero,hT]
theorem g_at(gs:List (List Qd)){sv:SV}:(gD gs++ [[DC.v sv]])[gs.length]?=some [.v sv]:=by
 rw[List.getElem?_append_right (by simp[gD])];simp[gD]
theorem ZiQ(gs:List (List Qd)){l:List Qd}{sv:SV}:setC (gD gs++ [[DC.v sv]]) gs.length 0 (.kid 16 ((l.map Zj).take l.length))=gD (gs++ [l]):=by
 rw[List.take_of_length_le (by rw[List.length_map];exact Nat.le_refl _)];apply List.ext_getElem?;intro i;rw[ZF,<-ZiO];by_cases h:i=gs.length
 ·subst h;rw[if_pos rfl,g_at,List.getElem?_append_right (by simp[gD])];simp[gD,gRow]
 ·rw[if_neg h,List.getElem?_append,List.getElem?_append];have hl:(gD gs).length=gs.length:=by simp[gD]
  by_cases h2:i< (gD gs).length
  ·rw[if_pos h2,if_pos h2]
  ·rw[if_neg h2,if_neg h2,List.getElem?_eq_none (by simp;omega),List.getElem?_eq_none (by simp;omega)]
theorem Zbv(a za b zb:List Qd)(lima limb:Option Nat)(ha:DsOK a)(hb:DsOK b)(hza:(a++za).length<=1152921504606846976)(hzb:(b++zb).length<=1152921504606846976):
 Does prog tab 36 3 [.sl (.loc 0) 0 1 2 none] [] [(0, .rows 1 [[.sl (.loc 1) 0 16 a.length lima],[.sl (.loc 2) 0 16 b.length limb]]),(1, .rows 16 ((a++za).map Zj)),(2, .rows 16 ((b++zb).map Zj))]
 (fun r O nx=>r= .ptr (.loc 3) 0 0 0/\O=w2Hp 3 (Z0 a++Z0 b) (List.replicate ((Z0 a).length+(Z0 b).length) 0) (ins2 a b) [gndM a,gndM b] (ct0 ((Z0 a).length+(Z0 b).length))/\nx=8):=by
 have hfa:=ha.few;have hfb:=hb.few;refine Does.enter Z1 call36 func36 rfl 106 rfl rfl [.tmp 2] rfl ?_;intro w0 F η0 h0;conv=>whnf
 repeat'((first|refine AU ?_|(refine IW ?_ ?_<;>intro h<;>try(exfalso;omega)))<;>conv=>whnf)
 refine LOOP.nilCell 3 0 1 rfl rfl (LOOP.nilCell 3 2 1 rfl rfl (LOOP.nilCell 3 3 1 rfl rfl (GHO.loop (GHO.deepen 5 [] rfl ⟨rfl,fun a r h=>by simp at h⟩) (GHO.loop (GHO.deepen 6 [] rfl ⟨rfl,fun a r h=>by simp at h⟩) ?_))));obtain⟨LS,hLS⟩:∃LS:Nat->List LB,LS=fun i=>if i=0 then []else if i=1 then Z0 a else Z0 a++Z0 b:=⟨_,rfl⟩
 obtain⟨IS,hIS⟩:∃IS:Nat->List (List Sd),IS=fun i=>if i=0 then []else if i=1 then V5 a else ins2 a b:=⟨_,rfl⟩
 obtain⟨GS,hGS⟩:∃GS:Nat->List (List Qd),GS=fun i=>if i=0 then []else if i=1 then [gndM a]else [gndM a,gndM b]:=⟨_,rfl⟩
 refine LOOP.gok Z1 [3,15,16] [] (X:=Nat) (fun i=>i<=2) (fun i=>[(17, .int .i64 (i:Int))])
  (fun i=>[(3, .box [.sl (.loc 4) 0 1 (LS i).length none, .val (.slice none 0 0), .sl (.loc 5) 0 1 (IS i).length none, .sl (.loc 6) 0 1 (GS i).length none, .int .i64 0]),(4, .rows 1 ((LS i).map Zb)),(5, .deep false 1 (inD (IS i))),(6, .deep false 1 (gD (GS i)))]) 7 (fun i=>2-i) 0 (by omega) ?_
 conv=>whnf
 refine⟨by subst hLS hIS hGS;exact GOES.cA h0,?_⟩;intro i hi;conv=>whnf
 refine IF.mk (fun h=>?_) (fun h=>?_)
 ·have h:i<2:=by simp at h;omega
  rcases(by omega:i=0\/i=1)with rfl|rfl
  ·as_aux_lemma=>
   obtain⟨L0,hL0⟩:∃L0,L0=LS 0:=⟨_,rfl⟩;obtain⟨I0,hI0⟩:∃I0,I0=IS 0:=⟨_,rfl⟩;obtain⟨G0,hG0⟩:∃G0,G0=GS 0:=⟨_,rfl⟩;rw[<-hL0,<-hI0,<-hG0];conv=>whnf
   repeat'((first|(refine GET.at rfl ?_;conv=>whnf)|refine AU ?_|(refine IW ?_ ?_<;>intro h<;>try(exfalso;omega)))<;>conv=>whnf)
   have hL1:LS 1=L0++Z0 a:=by rw[hL0,hLS];rfl
   have hI1:IS 1=a.foldl (putS (ixF (L0.length:Int) (Z0 a))) (I0++List.replicate (Z0 a).length []):=by rw[hI0,hIS,hL0,hLS];rfl
   have hG1:GS 1=G0++ [gndM a]:=by rw[hG0,hGS];rfl
   have hIL:I0.length=L0.length:=by rw[hI0,hIS,hL0,hLS];rfl
   have hIb:∀m∈I0,m.length<=1048576:=by rw[hI0,hIS];intro m hm;cases hm
   have hLb:L0.length<=4194304:=by rw[hL0,hLS];simp
   have hGl:G0.length<=1:=by rw[hG0,hGS];simp
   clear hL0 hI0 hG0 hLS hIS hGS;have hfew:=ha.few;have hbl:=WK a za lima (by unfold V6;omega) hza;have hnd:(Z0 a).Nodup:=J9 triL (YY triL _);have hAl:=YU ha;have hI2:=Z1z (c:=(L0.length:Int)) (by omega) a;have hset:setL cmpL (X4 a)=Z0 a:=rfl;have hge:=Z7O (ixF (L0.length:Int) (Z0 a)) a;refine CALL.aA [1] (hbl) ?_;rintro r O nx ⟨jj,hjj,rfl,rfl,rfl⟩;have hcn:Zk [1] (7+1) 1=8:=rfl;simp only[renO,renH,ren,renB,Ze _ (Zl _),List.cons_append,List.nil_append,hcn];rw[hset]at hjj⊢;generalize Z0 a=A at hnd hjj hAl hI2 hL1 hI1 hge⊢;have hLA:(L0++A).length=L0.length+A.length:=List.length_append;conv=>whnf
   repeat'((first|refine AU ?_|(refine IW ?_ ?_<;>intro h<;>try(exfalso;omega)))<;>conv=>whnf)
   refine LOOP.gok Z1 [3,5,6,7,15,16,17,28,29] [6,8] (X:=Nat) (fun i=>i<=A.length) (fun i=>[(30, .int .i64 (i:Int))])
    (fun i=>[(3, .box [.sl (.loc 4) 0 1 (L0.length+i) none, .val (.slice none 0 0), .sl (.loc 5) 0 1 (I0.length+i) none, .sl (.loc 6) 0 1 G0.length none, .int .i64 0]),(7, .mp (numT (V7 L0.length A i))),(4, .rows 1 (((L0++A).take (L0.length+i)).map Zb)),(5, .deep false 1 (inD (I0++List.replicate i [])))]) 9 (fun i=>A.length-i) 0 (by omega) ?_
   conv=>whnf
   refine⟨by simp only[Nat.add_zero,List.take_left,List.replicate_zero,List.append_nil];exact GOES.cA h0,?_⟩;intro i hi;have hti:((L0++A).take (L0.length+i)).length=L0.length+i:=by rw[List.length_take];omega
   have hri:(I0++List.replicate i ([]:List Sd)).length=I0.length+i:=by rw[List.length_append,List.length_replicate]
   conv=>whnf
   refine IF.mk (fun h=>?_) (fun h=>?_)
   ·as_aux_lemma=>
    have hlt:i<A.length:=by simp at h;omega
    have hs:=Ue (b:=(L0.length:Int)) hlt;have hw:IntKind.i64.wrap ((L0.length:Int)+(i:Int))=(L0.length:Int)+i:=Z9 (by omega) (by omega);have hga:(L0++A)[L0.length+i]'(by omega)=A[i]:=by rw[List.getElem_append_right (by omega)];congr 1;omega
    have hap:=Z8R (L0++A) (i:=L0.length+i) (by omega);rw[hga]at hap;have hia:=Zgk (I0++List.replicate i []) hri.symm (T:=tab) (e:=141) rfl;rw[List.append_assoc,<-List.replicate_succ']at hia;conv=>whnf
    repeat'(first|(refine GET.at (row:=Zb A[i]) (Zis hlt (by omega)) ?_;conv=>whnf)|(refine NEED.mk ⟨KT.ok _,Jc KT _ _⟩ ?_;conv=>whnf)|(rw[hw];conv=>whnf)|(refine NEED.mk (ZC 24 rfl rfl rfl (by rw[ZcF,hri];exact Nat.le_refl _) (by omega)) ?_;conv=>whnf)|(refine NEED.mk (ZC 16 rfl rfl rfl (by rw[List.length_map,hti];exact Nat.le_refl _) (by omega)) ?_;conv=>whnf)|(refine AU ?_;conv=>whnf))
    rw[hia,hap]
    first|rw[Zdh,<-hs]|rw[Zdi,<-hs]
    refine⟨i+1,by omega,by omega,?_⟩;conv=>whnf
    exact GOES.kA h0 [3,10,12,6,7,8]
   ·as_aux_lemma=>
    have hie:i=A.length:=by simp at h;omega
    subst hie;rw[List.take_of_length_le (by omega)];conv=>whnf
    repeat'((first|refine AU ?_|(refine IW ?_ ?_<;>intro h<;>try(exfalso;omega)))<;>conv=>whnf)
    refine LOOP.nil 10 16 rfl ?_;have hfA:=Zgj (b:=(L0.length:Int)) hnd;obtain⟨J,hJ⟩:∃J,J=I0++List.replicate A.length ([]:List Sd):=⟨_,rfl⟩
    have hJb:∀m∈J,m.length<=1048576:=by
     rw[hJ];intro m hm;rcases List.mem_append.1 hm with h1|h1
     ·exact hIb m h1
     ·rw[List.eq_of_mem_replicate h1];simp
    rw[<-hJ]at hri hI1⊢;rw[<-hri];have hins:∀j,((a.take j).foldl (putS (ixF (L0.length:Int) A)) J).length=J.length:=fun j=>X9 _ _ _
    refine LOOP.gok Z1 [3,7,15,16,17,60,61] [4,6,7] (X:=Nat×List Qd) (fun x=>x.1<=a.length/\x.2=VC (ixF (L0.length:Int) A) (a.take x.1)) (fun x=>[(62, .int .i64 (x.1:Int)),(10, .sl (.loc 9) 0 16 x.2.length none)])
     (fun x=>[(3, .box [.sl (.loc 4) 0 1 (L0.length+A.length) none, .val (.slice none 0 0), .sl (.loc 5) 0 1 J.length none, .sl (.loc 6) 0 1 G0.length none, .int .i64 0]),(5, .deep false 1 (inD ((a.take x.1).foldl (putS (ixF (L0.length:Int) A)) J))),(9, .rows 16 (x.2.map Zj))]) 10 (fun x=>a.length-x.1) (0,[]) ⟨by simp,rfl⟩ ?_
    conv=>whnf
    refine⟨by exact GOES.cA h0,?_⟩;rintro⟨j,G⟩ ⟨hj,hG⟩;dsimp only at hj hG⊢
    have hgl:G.length<=j:=by
     have:=List.length_filter_le (fun q=>decide (ownM (ixF (L0.length:Int) A) q=[])) (a.take j);rw[List.length_take]at this;rw[hG];unfold VC;omega
    conv=>whnf
    refine IF.mk (fun h=>?_) (fun h=>?_)
    ·as_aux_lemma=>
     have hlt:j<a.length:=by simp at h;omega
     have hto:=JH (putS (ixF (L0.length:Int) A)) J a hlt;have hgt:=Z3V (ixF (L0.length:Int) A) hlt;have hI:=hins j;have hbd:=V4 (f:=ixF (L0.length:Int) A) (l:=a.take j) hJb;rw[List.length_take]at hbd
     have hown:ZcH J.length (ownM (ixF (L0.length:Int) A) a[j]):=fun n hn=>by
      have:=hI2 _ (List.getElem_mem hlt) n hn;omega
     generalize(a.take j).foldl (putS (ixF (L0.length:Int) A)) J=I at hto hI hbd;rw[<-hG]at hgt;have hput:=Za2 a[j] (V7 L0.length A A.length) I (L0.length+A.length) G0.length J.length hI.symm (by rw[hfA,hI];exact hown) (fun x hx=>by have:=hbd x hx;omega) (by omega);rw[hfA]at hput;conv=>whnf
     repeat'((first|(refine GET.at (row:=Zj a[j]) (Zdx hlt (by omega)) ?_;conv=>whnf)|refine AU ?_|(refine IW ?_ ?_<;>intro h<;>try(exfalso;omega)))<;>conv=>whnf)
     refine CALL.aA [3,5,7,4,6] (hput) ?_;rintro r O nx ⟨rfl,rfl,rfl⟩;conv=>whnf
     repeat'((first|refine AU ?_|(refine IW ?_ ?_<;>intro h<;>try(exfalso;omega)))<;>conv=>whnf)
     ·have he:ownM (ixF (L0.length:Int) A) a[j]=[]:=List.length_eq_zero_iff.1 (by omega);rw[if_pos he]at hgt;rw[Zdy G a[j] rfl];refine⟨(j+1,G++ [a[j]]),⟨by dsimp only;omega,hgt.symm⟩,by dsimp only;omega,?_⟩;dsimp only;rw[hto];conv=>whnf
      exact GOES.kA h0 [3,4,5,6,7,8,12]
     ·have he:¬ownM (ixF (L0.length:Int) A) a[j]=[]:=fun e=>by rw[e]at h;simp at h
      rw[if_neg he]at hgt;refine⟨(j+1,G),⟨by dsimp only;omega,hgt.symm⟩,by dsimp only;omega,?_⟩;dsimp only;rw[hto];conv=>whnf
      exact GOES.cA h0
    ·as_aux_lemma=>
     have hje:j=a.length:=by simp at h;omega
     subst hje;rw[List.take_length]at hG⊢;conv=>whnf
     repeat'((first|(refine NEED.mk (ZC 24 rfl rfl rfl (by simp[gD]) (by omega)) ?_;conv=>whnf)|refine AU ?_|(refine IW ?_ ?_<;>intro h<;>try(exfalso;omega)))<;>conv=>whnf)
     rw[ZiP G0]
     rotate_left
     ·rfl
     have hgm:G=gndM a:=hG.trans hge;rw[hri,hIL];refine⟨1,by omega,by omega,?_⟩;rw[hL1,hI1,hG1,X9,hri,hIL,List.length_append,List.length_append];conv=>whnf
     refine GOES.trans (GHO.goes (GHO.putk 11 G0.length 0 9 rfl (g_at G0) rfl rfl (by rw[List.length_map];exact Nat.le_refl _) (by decide))) ?_;rw[ZiQ,hgm];exact GOES.kA h0 [3,4,5,11]
  ·as_aux_lemma=>
   obtain⟨L0,hL0⟩:∃L0,L0=LS 1:=⟨_,rfl⟩;obtain⟨I0,hI0⟩:∃I0,I0=IS 1:=⟨_,rfl⟩;obtain⟨G0,hG0⟩:∃G0,G0=GS 1:=⟨_,rfl⟩;rw[<-hL0,<-hI0,<-hG0];conv=>whnf
   repeat'((first|(refine GET.at rfl ?_;conv=>whnf)|refine AU ?_|(refine IW ?_ ?_<;>intro h<;>try(exfalso;omega)))<;>conv=>whnf)
   have hl1:LS 1=Z0 a:=by rw[hLS];rfl
   have hL1:LS 2=L0++Z0 b:=by rw[hL0,hLS];rfl
   have hI1:IS 2=b.foldl (putS (ixF (L0.length:Int) (Z0 b))) (I0++List.replicate (Z0 b).length []):=by rw[hI0,hIS,hL0,hl1];rfl
   have hG1:GS 2=G0++ [gndM b]:=by rw[hG0,hGS];rfl
   have hIL:I0.length=L0.length:=by rw[hI0,hIS,hL0,hl1];exact Ja a
   have hIb:∀m∈I0,m.length<=1048576:=by rw[hI0,hIS];exact Z42 ha
   have hLb:L0.length<=4194304:=by rw[hL0,hl1];exact YU ha
   have hGl:G0.length<=1:=by rw[hG0,hGS];simp
   clear hL0 hI0 hG0 hLS hIS hGS hl1;have hfew:=hb.few;have hbl:=WK b zb limb (by unfold V6;omega) hzb;have hnd:(Z0 b).Nodup:=J9 triL (YY triL _);have hAl:=YU hb;have hI2:=Z1z (c:=(L0.length:Int)) (by omega) b;have hset:setL cmpL (X4 b)=Z0 b:=rfl;have hge:=Z7O (ixF (L0.length:Int) (Z0 b)) b;refine CALL.aA [2] (hbl) ?_;rintro r O nx ⟨jj,hjj,rfl,rfl,rfl⟩;have hcn:Zk [2] (7+1) 1=8:=rfl;simp only[renO,renH,ren,renB,Ze _ (Zl _),List.cons_append,List.nil_append,hcn];rw[hset]at hjj⊢;generalize Z0 b=A at hnd hjj hAl hI2 hL1 hI1 hge⊢;have hLA:(L0++A).length=L0.length+A.length:=List.length_append;conv=>whnf
   repeat'((first|refine AU ?_|(refine IW ?_ ?_<;>intro h<;>try(exfalso;omega)))<;>conv=>whnf)
   refine LOOP.gok Z1 [3,5,6,7,15,16,17,28,29] [6,8] (X:=Nat) (fun i=>i<=A.length) (fun i=>[(30, .int .i64 (i:Int))])
    (fun i=>[(3, .box [.sl (.loc 4) 0 1 (L0.length+i) none, .val (.slice none 0 0), .sl (.loc 5) 0 1 (I0.length+i) none, .sl (.loc 6) 0 1 G0.length none, .int .i64 0]),(7, .mp (numT (V7 L0.length A i))),(4, .rows 1 (((L0++A).take (L0.length+i)).map Zb)),(5, .deep false 1 (inD (I0++List.replicate i [])))]) 9 (fun i=>A.length-i) 0 (by omega) ?_
   conv=>whnf
   refine⟨by simp only[Nat.add_zero,List.take_left,List.replicate_zero,List.append_nil];exact GOES.cA h0,?_⟩;intro i hi;have hti:((L0++A).take (L0.length+i)).length=L0.length+i:=by rw[List.length_take];omega
   have hri:(I0++List.replicate i ([]:List Sd)).length=I0.length+i:=by rw[List.length_append,List.length_replicate]
   conv=>whnf
   refine IF.mk (fun h=>?_) (fun h=>?_)
   ·as_aux_lemma=>
    have hlt:i<A.length:=by simp at h;omega
    have hs:=Ue (b:=(L0.length:Int)) hlt;have hw:IntKind.i64.wrap ((L0.length:Int)+(i:Int))=(L0.length:Int)+i:=Z9 (by omega) (by omega);have hga:(L0++A)[L0.length+i]'(by omega)=A[i]:=by rw[List.getElem_append_right (by omega)];congr 1;omega
    have hap:=Z8R (L0++A) (i:=L0.length+i) (by omega);rw[hga]at hap;have hia:=Zgk (I0++List.replicate i []) hri.symm (T:=tab) (e:=141) rfl;rw[List.append_assoc,<-List.replicate_succ']at hia;conv=>whnf
    repeat'(first|(refine GET.at (row:=Zb A[i]) (Zis hlt (by omega)) ?_;conv=>whnf)|(refine NEED.mk ⟨KT.ok _,Jc KT _ _⟩ ?_;conv=>whnf)|(rw[hw];conv=>whnf)|(refine NEED.mk (ZC 24 rfl rfl rfl (by rw[ZcF,hri];exact Nat.le_refl _) (by omega)) ?_;conv=>whnf)|(refine NEED.mk (ZC 16 rfl rfl rfl (by rw[List.length_map,hti];exact Nat.le_refl _) (by omega)) ?_;conv=>whnf)|(refine AU ?_;conv=>whnf))
    rw[hia,hap]
    first|rw[Zdh,<-hs]|rw[Zdi,<-hs]
    refine⟨i+1,by omega,by omega,?_⟩;conv=>whnf
    exact GOES.kA h0 [3,10,12,6,7,8]
   ·as_aux_lemma=>
    have hie:i=A.length:=by simp at h;omega
    subst hie;rw[List.take_of_length_le (by omega)];conv=>whnf
    repeat'((first|refine AU ?_|(refine IW ?_ ?_<;>intro h<;>try(exfalso;omega)))<;>conv=>whnf)
    refine LOOP.nil 10 16 rfl ?_;have hfA:=Zgj (b:=(L0.length:Int)) hnd;obtain⟨J,hJ⟩:∃J,J=I0++List.replicate A.length ([]:List Sd):=⟨_,rfl⟩
    have hJb:∀m∈J,m.length<=1048576:=by
     rw[hJ];intro m hm;rcases List.mem_append.1 hm with h1|h1
     ·exact hIb m h1
     ·rw[List.eq_of_mem_replicate h1];simp
    rw[<-hJ]at hri hI1⊢;rw[<-hri];have hins:∀j,((b.take j).foldl (putS (ixF (L0.length:Int) A)) J).length=J.length:=fun j=>X9 _ _ _
    refine LOOP.gok Z1 [3,7,15,16,17,60,61] [4,6,7] (X:=Nat×List Qd) (fun x=>x.1<=b.length/\x.2=VC (ixF (L0.length:Int) A) (b.take x.1)) (fun x=>[(62, .int .i64 (x.1:Int)),(10, .sl (.loc 9) 0 16 x.2.length none)])
     (fun x=>[(3, .box [.sl (.loc 4) 0 1 (L0.length+A.length) none, .val (.slice none 0 0), .sl (.loc 5) 0 1 J.length none, .sl (.loc 6) 0 1 G0.length none, .int .i64 0]),(5, .deep false 1 (inD ((b.take x.1).foldl (putS (ixF (L0.length:Int) A)) J))),(9, .rows 16 (x.2.map Zj))]) 10 (fun x=>b.length-x.1) (0,[]) ⟨by simp,rfl⟩ ?_
    conv=>whnf
    refine⟨by exact GOES.cA h0,?_⟩;rintro⟨j,G⟩ ⟨hj,hG⟩;dsimp only at hj hG⊢
    have hgl:G.length<=j:=by
     have:=List.length_filter_le (fun q=>decide (ownM (ixF (L0.length:Int) A) q=[])) (b.take j);rw[List.length_take]at this;rw[hG];unfold VC;omega
    conv=>whnf
    refine IF.mk (fun h=>?_) (fun h=>?_)
    ·as_aux_lemma=>
     have hlt:j<b.length:=by simp at h;omega
     have hto:=JH (putS (ixF (L0.length:Int) A)) J b hlt;have hgt:=Z3V (ixF (L0.length:Int) A) hlt;have hI:=hins j;have hbd:=V4 (f:=ixF (L0.length:Int) A) (l:=b.take j) hJb;rw[List.length_take]at hbd
     have hown:ZcH J.length (ownM (ixF (L0.length:Int) A) b[j]):=fun n hn=>by
      have:=hI2 _ (List.getElem_mem hlt) n hn;omega
     generalize(b.take j).foldl (putS (ixF (L0.length:Int) A)) J=I at hto hI hbd;rw[<-hG]at hgt;have hput:=Za2 b[j] (V7 L0.length A A.length) I (L0.length+A.length) G0.length J.length hI.symm (by rw[hfA,hI];exact hown) (fun x hx=>by have:=hbd x hx;omega) (by omega);rw[hfA]at hput;conv=>whnf
     repeat'((first|(refine GET.at (row:=Zj b[j]) (Zdx hlt (by omega)) ?_;conv=>whnf)|refine AU ?_|(refine IW ?_ ?_<;>intro h<;>try(exfalso;omega)))<;>conv=>whnf)
     refine CALL.aA [3,5,7,4,6] (hput) ?_;rintro r O nx ⟨rfl,rfl,rfl⟩;conv=>whnf
     repeat'((first|refine AU ?_|(refine IW ?_ ?_<;>intro h<;>try(exfalso;omega)))<;>conv=>whnf)
     ·have he:ownM (ixF (L0.length:Int) A) b[j]=[]:=List.length_eq_zero_iff.1 (by omega);rw[if_pos he]at hgt;rw[Zdy G b[j] rfl];refine⟨(j+1,G++ [b[j]]),⟨by dsimp only;omega,hgt.symm⟩,by dsimp only;omega,?_⟩;dsimp only;rw[hto];conv=>whnf
      exact GOES.kA h0 [3,4,5,6,7,8,12]
     ·have he:¬ownM (ixF (L0.length:Int) A) b[j]=[]:=fun e=>by rw[e]at h;simp at h
      rw[if_neg he]at hgt;refine⟨(j+1,G),⟨by dsimp only;omega,hgt.symm⟩,by dsimp only;omega,?_⟩;dsimp only;rw[hto];conv=>whnf
      exact GOES.cA h0
    ·as_aux_lemma=>
     have hje:j=b.length:=by simp at h;omega
     subst hje;rw[List.take_length]at hG⊢;conv=>whnf
     repeat'((first|(refine NEED.mk (ZC 24 rfl rfl rfl (by simp[gD]) (by omega)) ?_;conv=>whnf)|refine AU ?_|(refine IW ?_ ?_<;>intro h<;>try(exfalso;omega)))<;>conv=>whnf)
     rw[ZiP G0]
     rotate_left
     ·rfl
     have hgm:G=gndM b:=hG.trans hge;rw[hri,hIL];refine⟨2,by omega,by omega,?_⟩;rw[hL1,hI1,hG1,X9,hri,hIL,List.length_append,List.length_append];conv=>whnf
     refine GOES.trans (GHO.goes (GHO.putk 11 G0.length 0 9 rfl (g_at G0) rfl rfl (by rw[List.length_map];exact Nat.le_refl _) (by decide))) ?_;rw[ZiQ,hgm];exact GOES.kA h0 [3,4,5,11]
 ·have hie:i=2:=by simp at h;omega
  subst hie;have hl2:LS 2=Z0 a++Z0 b:=by rw[hLS];rfl
  have hi2:IS 2=ins2 a b:=by rw[hIS];rfl
  have hg2:GS 2=[gndM a,gndM b]:=by rw[hGS];rfl
  rw[hl2,hi2,hg2];have h1:=YU ha;have h2:=YU hb;have hlen:(Z0 a++Z0 b).length=(Z0 a).length+(Z0 b).length:=List.length_append;rw[hlen];conv=>whnf
  repeat'((first|(refine NEED.mk (Uf 8 rfl (by omega) (by omega) (by omega) (by omega)) ?_;conv=>whnf)|refine AU ?_|(refine IW ?_ ?_<;>intro h<;>try(exfalso;omega)))<;>conv=>whnf)
  generalize hn:(Z0 a).length+(Z0 b).length=n at h1 h2 hlen⊢;rw[show List.replicate (n:Int).toNat [SV.int .i64 0]=(List.replicate n 0).map Zi by rw[List.map_replicate];rfl];refine FIN.aA h0 [3,4,7,5,6] (.ptr (.loc 3) 0 0 0) [(3, .box [.sl (.loc 4) 0 1 n none, .sl (.loc 5) 0 1 n none, .sl (.loc 6) 0 1 (ins2 a b).length none, .sl (.loc 7) 0 1 2 none, .int .i64 (ct0 n)]),(4, .rows 1 ((Z0 a++Z0 b).map Zb)),(5, .rows 1 ((List.replicate n 0).map Zi)),(6, .deep false 1 (inD (ins2 a b))),(7, .deep false 1 (gD [gndM a,gndM b]))] ⟨rfl,?_,rfl⟩;unfold w2Hp;rw[hlen,List.length_replicate]
  rfl
open Tryz
theorem Zbw(n:Int):Does prog tab 79 0 [.int .i64 n] [] [] (Val (.bool (decide (n≠0)))):=by
 refine Does.enter Z1 call79 func79 rfl 5 rfl rfl [.tmp 2] rfl ?_;intro w0 F η0 h0;conv=>whnf
 repeat'((first|refine AU ?_|(refine IW ?_ ?_<;>intro h<;>try(exfalso;omega)))<;>conv=>whnf)
 exact FIN.value h0 rfl (congrArg SV.bool (by by_cases h:n=0<;>simp[h]))
theorem Z9b(l:List Int)(hl:l.length<=67108864):Does prog tab 106 1 [.sl (.loc 0) 0 1 l.length none, .fn (.func 79) [] []] [] [(0, .rows 1 (l.map Zi))] (fun r O nx=>O=[]/\nx=1/\∃k:Int,r= .int .i64 k/\(0<=k<->∃d∈l,d≠0)):=by
 refine Does.enter Z1 call106 func106 rfl 19 rfl rfl [.tmp 4] rfl ?_;intro w0 F η0 h0;conv=>whnf
 repeat'((first|refine AU ?_|(refine IW ?_ ?_<;>intro h<;>try(exfalso;omega)))<;>conv=>whnf)
 refine LOOP.go Z1 [0,1,7] (X:=Nat) (fun c=>c<=l.length/\∀d∈l.take c,d=0) (fun c=>[(8, .int .i64 (c:Int))]) (fun c=>[]) 1 (fun c=>l.length-c) 0 ⟨by omega,by simp⟩ ?_;conv=>whnf
 refine⟨by exact GOES.cA h0,?_⟩;rintro c ⟨hc,hn⟩;conv=>whnf
 refine IF.mk (fun h=>?_) (fun h=>?_)
 ·have hlt:c<l.length:=by simp at h;omega
  conv=>whnf
  repeat'((first|refine CALL.value (Zbw _) rfl rfl ?_|(refine GET.at (row:=Zi l[c]) (by rw[Int.toNat_natCast,Nat.zero_add];exact Vo hlt) ?_;conv=>whnf)|refine AU ?_|(refine IW ?_ ?_<;>intro h<;>try(exfalso;omega)))<;>conv=>whnf)
  ·have hne:l[c]≠0:=by simpa using h
   exact FIN.val h0 rfl ⟨rfl,rfl,_,rfl,⟨fun _=>⟨_,List.getElem_mem hlt,hne⟩,fun _=>by omega⟩⟩
  ·have hez:l[c]=0:=by simpa using h
   refine⟨c+1,⟨by omega,fun d hd=>?_⟩,by omega,?_⟩
   ·rw[List.take_succ_eq_append_getElem hlt]at hd;rcases List.mem_append.1 hd with hd|hd
    ·exact hn d hd
    ·rw[List.mem_singleton.1 hd];exact hez
   conv=>whnf
   exact GOES.cA h0
 ·have h:c=l.length:=by simp at h;omega
  subst h;rw[List.take_length]at hn;repeat'((first|refine AU ?_|(refine IW ?_ ?_<;>intro h<;>try(exfalso;omega)))<;>conv=>whnf)
  exact FIN.val h0 rfl ⟨rfl,rfl,_,rfl,⟨fun h=>by omega,fun⟨d,hd,hne⟩=>(hne (hn d hd)).elim⟩⟩
theorem Ze6(l:List Int)(hl:l.length<=67108864):Does prog tab 78 1 [.sl (.loc 0) 0 1 l.length none, .fn (.func 79) [] []] [] [(0, .rows 1 (l.map Zi))] (fun r O nx=>O=[]/\nx=1/\∃b,r= .bool b/\(b=true<->∃d∈l,d≠0)):=by
 have hix:=Z9b l hl;refine Does.enter Z1 call78 func78 rfl 9 rfl rfl [.tmp 4] rfl ?_;intro w0 F η0 h0;conv=>whnf
 repeat'((first|refine AU ?_|(refine IW ?_ ?_<;>intro h<;>try(exfalso;omega)))<;>conv=>whnf)
 refine CALL.aA [0] (hix) ?_;rintro r O nx ⟨rfl,rfl,k,rfl,hk⟩;conv=>whnf
 repeat'((first|refine AU ?_|(refine IW ?_ ?_<;>intro h<;>try(exfalso;omega)))<;>conv=>whnf)
 exact FIN.val h0 rfl ⟨rfl,rfl,_,rfl,by simp only[decide_eq_true_eq];exact hk⟩
theorem Ze7(C:List Int)(half nl ni ng c:Nat)(hF:C.length=2*half)(hf:∀x∈C,0<=x/\x< (c:Int))(hl:C.length<=67108864)(hc:c<=67108864):
 Does prog tab 52 5 [.ptr (.loc 0) 0 0 0] [] [(0,wBx 2 nl C.length ni ng c),(2, .rows 1 (C.map Zi))] (fun r O nx=>O=[]/\nx=5/\∃b,r= .bool b/\(b=true<->Z93 C half)):=by
 refine Does.enter Z1 call52 func52 rfl 45 rfl rfl [.tmp 2] rfl ?_;intro w0 F η0 h0;conv=>whnf
 repeat'((first|(refine NEED.mk (Uf 8 rfl (by omega) (by omega) (by omega) (by omega)) ?_;conv=>whnf)|refine AU ?_|(refine IW ?_ ?_<;>intro h<;>try(exfalso;omega)))<;>conv=>whnf)
 have hq:IntKind.i64.wrap ((C.length:Int).tdiv 2)=(half:Int):=by rw[hF,Int.tdiv_eq_ediv_of_nonneg (by omega),Z9 (by omega) (by omega)];omega
 rw[show List.replicate (c:Int).toNat [SV.int .i64 0]=(dfL C half c 0).map Zi by rw[Zaj,List.map_replicate];rfl];refine LOOP.gok Z1 [0,3,14,15] [] (X:=Nat) (fun x=>x<=C.length) (fun x=>[(16, .int .i64 (x:Int))]) (fun x=>[(5, .rows 1 ((dfL C half c x).map Zi))]) 6 (fun x=>C.length-x) 0 (by omega) ?_;conv=>whnf
 refine⟨by exact GOES.cA h0,?_⟩;intro x hx;conv=>whnf
 refine IF.mk (fun h=>?_) (fun h=>?_)
 ·have hlt:x<C.length:=by simp at h;omega
  have hfx:=hf _ (List.getElem_mem hlt);have hgC:=Vo hlt;have hgd:((dfL C half c x).map Zi)[C[x].toNat]?=some (Zi (dfM C half x C[x].toNat)):=by rw[List.getElem?_map,Zgo (by omega)];rfl
  have hdb:=Zak C half x C[x].toNat;conv=>whnf
  repeat'((first|(refine GET.at (row:=Zi C[x]) (by rw[Int.toNat_natCast,Nat.zero_add];exact hgC) ?_;conv=>whnf)|(refine GET.at (row:=Zi (dfM C half x C[x].toNat)) (by rw[Nat.zero_add];exact hgd) ?_;conv=>whnf)|refine AU ?_|(refine IW ?_ ?_<;>intro h<;>try(exfalso;omega)))<;>conv=>whnf)
  all_goals rw[hq]at h
  ·have hst:((dfL C half c x).map Zi).set (0+C[x].toNat) [SV.int .i64 (IntKind.i64.wrap (dfM C half x C[x].toNat+1))]=(dfL C half c (x+1)).map Zi:=by rw[VS (x:=C[x].toNat) (by omega),Z6n hlt hfx (by rw[if_pos (by omega),Z9 (by omega) (by omega)])]
   rw[hst];refine⟨x+1,by omega,by omega,?_⟩;conv=>whnf
   exact GOES.cA h0
  ·have hst:((dfL C half c x).map Zi).set (0+C[x].toNat) [SV.int .i64 (IntKind.i64.wrap (dfM C half x C[x].toNat-1))]=(dfL C half c (x+1)).map Zi:=by rw[VS (x:=C[x].toNat) (by omega),Z6n hlt hfx (by rw[if_neg (by omega),Z9 (by omega) (by omega)];omega)]
   rw[hst];refine⟨x+1,by omega,by omega,?_⟩;conv=>whnf
   exact GOES.cA h0
 ·have hxe:x=C.length:=by simp at h;omega
  subst hxe;have hany:=Ze6 (dfL C half c C.length) (by rw[Z94];omega);rw[Z94]at hany;conv=>whnf
  repeat'((first|refine AU ?_|(refine IW ?_ ?_<;>intro h<;>try(exfalso;omega)))<;>conv=>whnf)
  refine CALL.aA [5] (hany) ?_;rintro r O nx ⟨rfl,rfl,b,rfl,hb⟩;conv=>whnf
  repeat'((first|refine AU ?_|(refine IW ?_ ?_<;>intro h<;>try(exfalso;omega)))<;>conv=>whnf)
  refine FIN.val h0 rfl ⟨rfl,rfl,_,rfl,?_⟩;rw[<-Zal hf];constructor
  ·intro h1 d hd;refine Decidable.byContradiction fun hne=>?_;rw[hb.2 ⟨d,hd,hne⟩]at h1;cases h1
  ·intro h1;cases b with
   |false=>rfl
   |true=>obtain⟨d,hd,hne⟩:=hb.1 rfl;exact(hne (h1 d hd)).elim
end Go.Proofs.YtbfbokdccdagkaaGreatDoor
