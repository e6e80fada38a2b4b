/- Part 19: IsoSight, IsoJoin, IsoSplit, IsoCls, IsoFits, IsoRest, IsoFindL, IsoVal, IsoLook2, IsoEven, FindW. Conditions: as each part says. -/
import Derived.Lib.ItoaLen
import Derived.Test.YtbfbokdccdagkaaGreatDoorUnm17
import Derived.Test.YtbfbokdccdagkaaGreatDoorUnm18
set_option linter.unusedVariables false
set_option linter.unusedSimpArgs false
set_option maxRecDepth 20000
set_option maxHeartbeats 8000000
namespace Go.Proofs.YtbfbokdccdagkaaGreatDoor
open Go.Sx Go.Our Go.Lib
open Tryz
def YT:Plan:=(ZU [(0,1),(1,1),(2,1),(4,1),(5,1),(6,1),(3,2),(7,2),(8,1),(9,2),(10,3),(11,1),(12,0)])
def ZbB:Go.Shelf.Ren:=⟨fun|243=>128|246=>156|283=>179|284=>180|285=>181|286=>182|129=>123|317=>211|318=>212|319=>213|320=>214|337=>237|338=>238|n=>n,fun|3=>3|9=>9|2=>2|4=>4|171=>229|0=>0|53=>104|37=>174|5=>5|173=>231|212=>249|51=>169|20=>20|213=>250|46=>135|232=>272|233=>273|n=>n,fun|17=>1|18=>3|19=>4|n=>n⟩
theorem Zhm:Go.Proofs.LaysM.n243 prog ZbB where
 mixed:=by kernel_rfl
 f129:=func123.trans (congrArg some (by kernel_rfl))
 f243:=func128.trans (congrArg some (by kernel_rfl))
 f246:=func156.trans (congrArg some (by kernel_rfl))
 f283:=func179.trans (congrArg some (by kernel_rfl))
 f284:=func180.trans (congrArg some (by kernel_rfl))
 f285:=func181.trans (congrArg some (by kernel_rfl))
 f286:=func182.trans (congrArg some (by kernel_rfl))
 f317:=func211.trans (congrArg some (by kernel_rfl))
 f318:=func212.trans (congrArg some (by kernel_rfl))
 f319:=func213.trans (congrArg some (by kernel_rfl))
 f320:=func214.trans (congrArg some (by kernel_rfl))
 f337:=func237.trans (congrArg some (by kernel_rfl))
 f338:=func238.trans (congrArg some (by kernel_rfl))
 t0:=underlying0
 a0:=isAgg0
 z0:=sizeOf0
 v0:=zeroValue0
 t2:=underlying2
 a2:=isAgg2
 z2:=sizeOf2
 v2:=zeroValue2
 t3:=underlying3
 a3:=isAgg3
 z3:=sizeOf3
 v3:=zeroValue3
 t4:=underlying4
 a4:=isAgg4
 z4:=sizeOf4
 v4:=zeroValue4
 t5:=underlying5
 a5:=isAgg5
 z5:=sizeOf5
 v5:=zeroValue5
 t9:=underlying9
 a9:=isAgg9
 z9:=sizeOf9
 v9:=zeroValue9
 t20:=underlying20
 a20:=isAgg20
 z20:=sizeOf20
 v20:=zeroValue20
 t37:=underlying174
 a37:=isAgg174
 z37:=sizeOf174
 v37:=zeroValue174
 t46:=underlying135
 a46:=isAgg135
 z46:=sizeOf135
 v46:=zeroValue135
 t51:=underlying169
 a51:=isAgg169
 z51:=sizeOf169
 v51:=zeroValue169
 t53:=underlying104
 a53:=isAgg104
 z53:=sizeOf104
 v53:=zeroValue104
 t171:=underlying229
 a171:=isAgg229
 z171:=sizeOf229
 v171:=zeroValue229
 t173:=underlying231
 a173:=isAgg231
 z173:=sizeOf231
 v173:=zeroValue231
 t212:=underlying249
 a212:=isAgg249
 z212:=sizeOf249
 v212:=zeroValue249
 t213:=underlying250
 a213:=isAgg250
 z213:=sizeOf250
 t232:=underlying272
 a232:=isAgg272
 z232:=sizeOf272
 v232:=zeroValue272
 t233:=underlying273
 a233:=isAgg273
 z233:=sizeOf273
 v233:=zeroValue273
 g17:=by kernel_rfl
 g18:=by kernel_rfl
 g19:=by kernel_rfl
 i0:=by kernel_rfl
 i2:=by kernel_rfl
 i3:=by kernel_rfl
 i4:=by kernel_rfl
 i5:=by kernel_rfl
 i9:=by kernel_rfl
 i20:=by kernel_rfl
 i37:=by kernel_rfl
 i46:=by kernel_rfl
 i51:=by kernel_rfl
 i53:=by kernel_rfl
 i171:=by kernel_rfl
 i173:=by kernel_rfl
 i212:=by kernel_rfl
 i232:=by kernel_rfl
 i233:=by kernel_rfl
 m17:=by kernel_rfl
 m18:=by kernel_rfl
 m19:=by kernel_rfl
def I64(n:Int):Prop:= -9223372036854775808<=n/\n<=9223372036854775807
theorem Z9r(n:Int)(h:I64 n):Does prog tab 128 0 [.int .i64 n] [] [] (Val (.str (itoa n))):=
 ZbA Zhm call128 (g:=1) (by kernel_rfl) (by kernel_rfl) n h.1 h.2
theorem Zz(n:Int)(h:I64 n):Does prog tab 98 0 [.int .i64 n] [] [] (Val (.str (itoa n))):=by
 refine Does.enter Z1 call98 func98 rfl 5 rfl rfl [.tmp 2] rfl ?_;intro w0 F η0 h0;conv=>whnf
 repeat'((first|refine CALL.value (Z9r n h) rfl rfl ?_|refine AU ?_|(refine IW ?_ ?_<;>intro h<;>try(exfalso;omega)))<;>conv=>whnf)
 exact FIN.value h0 rfl rfl
theorem ZJ{n:Int}(h:I64 n):(itoa n).length<=21:=itoa_length_le n h.1 h.2
def wBx(c nl nc ni ng:Nat)(count:Int):Hp:= .box [.sl (.loc 1) 0 1 nl none, .sl (.loc c) 0 1 nc none, .sl (.loc 3) 0 1 ni none, .sl (.loc 4) 0 1 ng none, .int .i64 count]
def TmOK(N:Nat)(t:Tm):Prop:=t.t.length+t.y.length+t.l.length<=N/\I64 t.k
structure SdOK(N nc:Nat)(s:Sd):Prop where
 ts:TmOK N s.q.s
 tp:TmOK N s.q.p
 to:TmOK N s.q.o
 tg:TmOK N s.q.g
 a: -1<=s.a/\s.a< (nc:Int)
 b: -1<=s.b/\s.b< (nc:Int)
 c: -1<=s.c/\s.c< (nc:Int)
 d: -1<=s.d/\s.d< (nc:Int)
def Z2B(cl:List Int)(x:Nat)(s:Sd):List Seen:=[seeM cl x s.a s.q.s,seeM cl x s.b s.q.p,seeM cl x s.c s.q.o,seeM cl x s.d s.q.g]
def preS(cl:List Int)(x:Nat)(s:Sd)(k:Nat):LB:=(((Z2B cl x s).take k).map Vf).flatten
theorem ZbC(cl:List Int)(x:Nat)(s:Sd):preS cl x s 4=Xc (sgM cl x s):=by
 unfold preS Z2B Xc sgM;simp
theorem Z4R{s:LB}{N:Nat}(h:s.length<=N)(hN:N<=1099511627776):(Z0X s).length<=N+23:=by
 unfold Z0X;have:=ZJ (n:=(s.length:Int)) ⟨by omega,by omega⟩;simp only[List.length_cons,List.length_append];omega
theorem Z1i{cl:List Int}{x:Nat}{n:Int}{t:Tm}{N:Nat}(ht:TmOK N t)(hN:N<=1099511627776)(hc:∀c∈cl,0<=c/\c<4611686018427387904):(Vf (seeM cl x n t)).length<=N+91:=by
 obtain⟨h1,h2⟩:=ht;have a:=Z4R (s:=t.t) (N:=t.t.length) (Nat.le_refl _) (by omega);have b:=Z4R (s:=t.y) (N:=t.y.length) (Nat.le_refl _) (by omega);have c:=Z4R (s:=t.l) (N:=t.l.length) (Nat.le_refl _) (by omega);have d:=ZJ h2;unfold seeM Vf;split
 ·simp only[Bool.false_eq_true,if_false,Int.lt_irrefl];unfold Z9p;simp only[List.length_append,List.length_singleton];omega
 ·split
  ·simp
  ·have hg:0<=cl.getD n.toNat 0/\cl.getD n.toNat 0<4611686018427387904:=by
    rw[List.getD_eq_getElem?_getD];cases e:cl[n.toNat]? with
    |none=>simp
    |some c=>exact hc c (List.mem_of_getElem? e)
   have:=ZJ (n:=1+cl.getD n.toNat 0-1) ⟨by omega,by omega⟩;simp only[Bool.false_eq_true,if_false];rw[if_pos (show 0<1+cl.getD n.toNat 0 by omega)];simp only[List.length_append,List.length_cons,List.length_nil];omega
theorem Z2C{cl:List Int}{x:Nat}{s:Sd}{N:Nat}(hs:SdOK N cl.length s)(hN:N<=1099511627776)(hc:∀c∈cl,0<=c/\c<4611686018427387904){k:Nat}(hk:k<=4):(preS cl x s k).length<=4*(N+91):=by
 have h1:=Z1i (x:=x) (n:=s.a) hs.ts hN hc;have h2:=Z1i (x:=x) (n:=s.b) hs.tp hN hc;have h3:=Z1i (x:=x) (n:=s.c) hs.to hN hc;have h4:=Z1i (x:=x) (n:=s.d) hs.tg hN hc;have hk:k=0\/k=1\/k=2\/k=3\/k=4:=by omega
 rcases hk with rfl|rfl|rfl|rfl|rfl<;>simp[preS,Z2B]<;>omega
theorem WF{cl:List Int}{x:Nat}{n:Int}{t:Tm}(h:n=(x:Int)):Vf (seeM cl x n t)=[64]++ [32]:=by
 unfold seeM;rw[if_neg (by omega),if_pos h];rfl
theorem Z1j{cl:List Int}{x:Nat}{n:Int}{t:Tm}(hc:∀c∈cl,0<=c/\c<4611686018427387904)(h:¬n=(x:Int))(h2:0<=n)(hn:n.toNat<cl.length):Vf (seeM cl x n t)=([35]++itoa cl[n.toNat])++ [32]:=by
 have h3:=(hc _ (List.getElem_mem hn)).1;unfold seeM;rw[if_neg (by omega),if_neg h];unfold Vf;simp only[Bool.false_eq_true,if_false];rw[List.getD_eq_getElem?_getD,List.getElem?_eq_getElem hn,Option.getD_some,if_pos (by omega),show 1+cl[n.toNat]-1=cl[n.toNat]by omega]
 rfl
def Zj(s:LB):LB:=(([61]++itoa (s.length:Int))++ [58])++s
theorem WG{cl:List Int}{x:Nat}{n:Int}{t:Tm}{out:LB}(h:n<0):out++Vf (seeM cl x n t)=((((out++Zj t.t)++Zj t.y)++Zj t.l)++itoa t.k)++ [32]:=by
 unfold seeM;rw[if_pos h];unfold Vf Z9p Z0X Zj;simp
theorem YE{s:LB}{N:Nat}(h:s.length<=N)(hN:N<=1099511627776):(Zj s).length<=s.length+23:=by
 unfold Zj;have:=ZJ (n:=(s.length:Int)) ⟨by omega,by omega⟩;simp only[List.length_cons,List.length_append,List.length_nil];omega
theorem Z9s(cl:List Int)(x:Nat)(s:Sd)(N:Nat)(hs:SdOK N cl.length s)(hN:N<=1099511627776)(hc:∀c∈cl,0<=c/\c<4611686018427387904)(hcl:cl.length<=4611686018427387904)(nl ni ng:Nat)(ct:Int):
 Does prog tab 97 5 [.ptr (.loc 0) 0 0 0, .int .i64 (x:Int), .agg (VW s)] [] [(0,wBx 2 nl cl.length ni ng ct),(2, .rows 1 (cl.map Zo))] (ValK 5 (.str (Xc (sgM cl x s)))):=by
 refine Does.enter Z1 call97 func97 rfl 71 rfl rfl [.tmp 6] rfl ?_;intro w0 F η0 h0;conv=>whnf
 repeat'((first|refine AU ?_|(refine IW ?_ ?_<;>intro h<;>try(exfalso;omega)))<;>conv=>whnf)
 refine LOOP.gok Z1 [0,1,5,7,13] [5] (X:=Nat) (fun k=>k<=4) (fun k=>[(14, .int .i64 (k:Int))]) (fun k=>[(6, .bld TB TU (preS cl x s k))]) 7 (fun k=>4-k) 0 (by omega) ?_;conv=>whnf
 refine⟨by exact GOES.cA h0,?_⟩;rintro k hk4;conv=>whnf
 refine IF.mk (fun h=>?_) (fun h=>?_)
 ·have hlt:k<4:=by simp at h;omega
  have hkk:k=0\/k=1\/k=2\/k=3:=by omega
  rcases hkk with rfl|rfl|rfl|rfl
  ·have hst:preS cl x s 1=preS cl x s 0++Vf (seeM cl x s.a s.q.s):=by simp[preS,Z2B]
   have hol:=Z2C (x:=x) hs hN hc (k:=0) (by omega);obtain⟨hn0,hn1⟩:=hs.a;obtain⟨ht0,ht1⟩:=hs.ts;generalize preS cl x s 0=out at hst hol⊢;generalize s.a=n at hst hn0 hn1⊢;generalize s.q.s=t at hst ht0 ht1⊢;conv=>whnf
   repeat'((first|refine AU ?_|(refine IW ?_ ?_<;>intro h<;>try(exfalso;omega)))<;>conv=>whnf)
   ·have hw:out.length+([64]:LB).length<=140737488355328:=by simp only[List.length_cons,List.length_nil];omega
    refine CALL.aA [6] (Z2 out [64] hw) ?_;rintro r O' nx' ⟨rfl,rfl,rfl⟩;clear hw;have hw:(out++ [64]).length+([32]:LB).length<=140737488355328:=by simp only[List.length_append,List.length_cons,List.length_nil];omega
    conv=>whnf
    repeat'((first|refine AU ?_|(refine IW ?_ ?_<;>intro h<;>try(exfalso;omega)))<;>conv=>whnf)
    refine CALL.aA [6] (Z2 (out++ [64]) [32] hw) ?_;rintro r O' nx' ⟨rfl,rfl,rfl⟩;clear hw;conv=>whnf
    repeat'((first|refine AU ?_|(refine IW ?_ ?_<;>intro h<;>try(exfalso;omega)))<;>conv=>whnf)
    refine⟨1,by omega,by omega,?_⟩;dsimp only;rw[hst,WF h,<-List.append_assoc];conv=>whnf
    exact GOES.cA h0
   ·have hnl:n.toNat<cl.length:=by omega
    have hci:=hc _ (List.getElem_mem hnl);have hI:I64 cl[n.toNat]:=⟨by omega,by omega⟩;have hil:=ZJ hI;have hg:=Jj hnl;rw[Z1j hc (by assumption) h hnl,<-List.append_assoc]at hst;generalize cl[n.toNat]=c at hci hI hil hg hst⊢;repeat'((first|(show DRAWN _ _ _ _ _ _ _;first|refine DRAWN.of (id:=14) Z1 mixed YT (by kernel_rfl) ?_)|refine ADD.mk (fun _ _=>?_)|refine AD ?_|refine FORK.mk ?_ ?_|refine CALL.value (Zz c hI) rfl rfl ?_|(refine GET.at (row:=Zo c) (by rw[Nat.zero_add];exact hg) ?_;conv=>whnf)|refine AU ?_|(refine IW ?_ ?_<;>intro h<;>try(exfalso;omega)))<;>conv=>whnf)
    have hw:out.length+([35]++itoa c).length<=140737488355328:=by simp only[List.length_append,List.length_cons,List.length_nil];omega
    refine CALL.aA [6] (Z2 out ([35]++itoa c) hw) ?_;rintro r O' nx' ⟨rfl,rfl,rfl⟩;clear hw;repeat'((first|(show DRAWN _ _ _ _ _ _ _;first|refine DRAWN.of (id:=14) Z1 mixed YT (by kernel_rfl) ?_)|refine ADD.mk (fun _ _=>?_)|refine AD ?_|refine FORK.mk ?_ ?_|refine AU ?_|(refine IW ?_ ?_<;>intro h<;>try(exfalso;omega)))<;>conv=>whnf)
    have hw:(out++([35]++itoa c)).length+([32]:LB).length<=140737488355328:=by simp only[List.length_append,List.length_cons,List.length_nil];omega
    conv=>whnf
    repeat'((first|refine AU ?_|(refine IW ?_ ?_<;>intro h<;>try(exfalso;omega)))<;>conv=>whnf)
    refine CALL.aA [6] (Z2 (out++([35]++itoa c)) [32] hw) ?_;rintro r O' nx' ⟨rfl,rfl,rfl⟩;clear hw;conv=>whnf
    repeat'((first|refine AU ?_|(refine IW ?_ ?_<;>intro h<;>try(exfalso;omega)))<;>conv=>whnf)
    refine⟨1,by omega,by omega,?_⟩;dsimp only;rw[hst];conv=>whnf
    exact GOES.cA h0
   ·rw[WG h]at hst;have h1:=YE (s:=t.t) (N:=N) (by omega) hN;have h2:=YE (s:=t.y) (N:=N) (by omega) hN;have h3:=YE (s:=t.l) (N:=N) (by omega) hN;have hil:=ZJ ht1;have hw1:out.length+(Zj t.t).length<=140737488355328:=by omega
    have hw2:(out++Zj t.t).length+(Zj t.y).length<=140737488355328:=by rw[List.length_append];omega
    have hw3:((out++Zj t.t)++Zj t.y).length+(Zj t.l).length<=140737488355328:=by rw[List.length_append,List.length_append];omega
    have hI:I64 (t.t.length:Int):=⟨by omega,by omega⟩;have hq:=ZJ hI;repeat'((first|(refine LOOP.once Z1 ?_;conv=>whnf)|refine CALL.value (Zz (t.t.length:Int) hI) rfl rfl ?_|(refine NEED.mk (by simp;omega) ?_;conv=>whnf)|refine AU ?_|(refine IW ?_ ?_<;>intro h<;>try(exfalso;omega)))<;>conv=>whnf)
    clear hI hq;refine CALL.aA [6] (Z2 (out) (Zj t.t) hw1) ?_;rintro r O' nx' ⟨rfl,rfl,rfl⟩;conv=>whnf
    have hI:I64 (t.y.length:Int):=⟨by omega,by omega⟩;have hq:=ZJ hI;repeat'((first|(refine LOOP.once Z1 ?_;conv=>whnf)|refine CALL.value (Zz (t.y.length:Int) hI) rfl rfl ?_|(refine NEED.mk (by simp;omega) ?_;conv=>whnf)|refine AU ?_|(refine IW ?_ ?_<;>intro h<;>try(exfalso;omega)))<;>conv=>whnf)
    clear hI hq;refine CALL.aA [6] (Z2 (out++Zj t.t) (Zj t.y) hw2) ?_;rintro r O' nx' ⟨rfl,rfl,rfl⟩;conv=>whnf
    have hI:I64 (t.l.length:Int):=⟨by omega,by omega⟩;have hq:=ZJ hI;repeat'((first|(refine LOOP.once Z1 ?_;conv=>whnf)|refine CALL.value (Zz (t.l.length:Int) hI) rfl rfl ?_|(refine NEED.mk (by simp;omega) ?_;conv=>whnf)|refine AU ?_|(refine IW ?_ ?_<;>intro h<;>try(exfalso;omega)))<;>conv=>whnf)
    clear hI hq;refine CALL.aA [6] (Z2 ((out++Zj t.t)++Zj t.y) (Zj t.l) hw3) ?_;rintro r O' nx' ⟨rfl,rfl,rfl⟩;conv=>whnf
    repeat'((first|(refine LOOP.once Z1 ?_;conv=>whnf)|refine CALL.value (Zz t.k ht1) rfl rfl ?_|refine AU ?_|(refine IW ?_ ?_<;>intro h<;>try(exfalso;omega)))<;>conv=>whnf)
    have hw:(((out++Zj t.t)++Zj t.y)++Zj t.l).length+(itoa t.k).length<=140737488355328:=by simp only[List.length_append];omega
    refine CALL.aA [6] (Z2 (((out++Zj t.t)++Zj t.y)++Zj t.l) (itoa t.k) hw) ?_;rintro r O' nx' ⟨rfl,rfl,rfl⟩;clear hw;have hw:((((out++Zj t.t)++Zj t.y)++Zj t.l)++itoa t.k).length+([32]:LB).length<=140737488355328:=by simp only[List.length_append,List.length_cons,List.length_nil];omega
    conv=>whnf
    repeat'((first|refine AU ?_|(refine IW ?_ ?_<;>intro h<;>try(exfalso;omega)))<;>conv=>whnf)
    refine CALL.aA [6] (Z2 ((((out++Zj t.t)++Zj t.y)++Zj t.l)++itoa t.k) [32] hw) ?_;rintro r O' nx' ⟨rfl,rfl,rfl⟩;clear hw;conv=>whnf
    repeat'((first|refine AU ?_|(refine IW ?_ ?_<;>intro h<;>try(exfalso;omega)))<;>conv=>whnf)
    refine⟨1,by omega,by omega,?_⟩;dsimp only;rw[hst];conv=>whnf
    exact GOES.cA h0
  ·have hst:preS cl x s 2=preS cl x s 1++Vf (seeM cl x s.b s.q.p):=by simp[preS,Z2B]
   have hol:=Z2C (x:=x) hs hN hc (k:=1) (by omega);obtain⟨hn0,hn1⟩:=hs.b;obtain⟨ht0,ht1⟩:=hs.tp;generalize preS cl x s 1=out at hst hol⊢;generalize s.b=n at hst hn0 hn1⊢;generalize s.q.p=t at hst ht0 ht1⊢;conv=>whnf
   repeat'((first|refine AU ?_|(refine IW ?_ ?_<;>intro h<;>try(exfalso;omega)))<;>conv=>whnf)
   ·have hw:out.length+([64]:LB).length<=140737488355328:=by simp only[List.length_cons,List.length_nil];omega
    refine CALL.aA [6] (Z2 out [64] hw) ?_;rintro r O' nx' ⟨rfl,rfl,rfl⟩;clear hw;have hw:(out++ [64]).length+([32]:LB).length<=140737488355328:=by simp only[List.length_append,List.length_cons,List.length_nil];omega
    conv=>whnf
    repeat'((first|refine AU ?_|(refine IW ?_ ?_<;>intro h<;>try(exfalso;omega)))<;>conv=>whnf)
    refine CALL.aA [6] (Z2 (out++ [64]) [32] hw) ?_;rintro r O' nx' ⟨rfl,rfl,rfl⟩;clear hw;conv=>whnf
    repeat'((first|refine AU ?_|(refine IW ?_ ?_<;>intro h<;>try(exfalso;omega)))<;>conv=>whnf)
    refine⟨2,by omega,by omega,?_⟩;dsimp only;rw[hst,WF h,<-List.append_assoc];conv=>whnf
    exact GOES.cA h0
   ·have hnl:n.toNat<cl.length:=by omega
    have hci:=hc _ (List.getElem_mem hnl);have hI:I64 cl[n.toNat]:=⟨by omega,by omega⟩;have hil:=ZJ hI;have hg:=Jj hnl;rw[Z1j hc (by assumption) h hnl,<-List.append_assoc]at hst;generalize cl[n.toNat]=c at hci hI hil hg hst⊢;repeat'((first|(show DRAWN _ _ _ _ _ _ _;first|refine DRAWN.of (id:=14) Z1 mixed YT (by kernel_rfl) ?_)|refine ADD.mk (fun _ _=>?_)|refine AD ?_|refine FORK.mk ?_ ?_|refine CALL.value (Zz c hI) rfl rfl ?_|(refine GET.at (row:=Zo c) (by rw[Nat.zero_add];exact hg) ?_;conv=>whnf)|refine AU ?_|(refine IW ?_ ?_<;>intro h<;>try(exfalso;omega)))<;>conv=>whnf)
    have hw:out.length+([35]++itoa c).length<=140737488355328:=by simp only[List.length_append,List.length_cons,List.length_nil];omega
    refine CALL.aA [6] (Z2 out ([35]++itoa c) hw) ?_;rintro r O' nx' ⟨rfl,rfl,rfl⟩;clear hw;repeat'((first|(show DRAWN _ _ _ _ _ _ _;first|refine DRAWN.of (id:=14) Z1 mixed YT (by kernel_rfl) ?_)|refine ADD.mk (fun _ _=>?_)|refine AD ?_|refine FORK.mk ?_ ?_|refine AU ?_|(refine IW ?_ ?_<;>intro h<;>try(exfalso;omega)))<;>conv=>whnf)
    have hw:(out++([35]++itoa c)).length+([32]:LB).length<=140737488355328:=by simp only[List.length_append,List.length_cons,List.length_nil];omega
    conv=>whnf
    repeat'((first|refine AU ?_|(refine IW ?_ ?_<;>intro h<;>try(exfalso;omega)))<;>conv=>whnf)
    refine CALL.aA [6] (Z2 (out++([35]++itoa c)) [32] hw) ?_;rintro r O' nx' ⟨rfl,rfl,rfl⟩;clear hw;conv=>whnf
    repeat'((first|refine AU ?_|(refine IW ?_ ?_<;>intro h<;>try(exfalso;omega)))<;>conv=>whnf)
    refine⟨2,by omega,by omega,?_⟩;dsimp only;rw[hst];conv=>whnf
    exact GOES.cA h0
   ·rw[WG h]at hst;have h1:=YE (s:=t.t) (N:=N) (by omega) hN;have h2:=YE (s:=t.y) (N:=N) (by omega) hN;have h3:=YE (s:=t.l) (N:=N) (by omega) hN;have hil:=ZJ ht1;have hw1:out.length+(Zj t.t).length<=140737488355328:=by omega
    have hw2:(out++Zj t.t).length+(Zj t.y).length<=140737488355328:=by rw[List.length_append];omega
    have hw3:((out++Zj t.t)++Zj t.y).length+(Zj t.l).length<=140737488355328:=by rw[List.length_append,List.length_append];omega
    have hI:I64 (t.t.length:Int):=⟨by omega,by omega⟩;have hq:=ZJ hI;repeat'((first|(refine LOOP.once Z1 ?_;conv=>whnf)|refine CALL.value (Zz (t.t.length:Int) hI) rfl rfl ?_|(refine NEED.mk (by simp;omega) ?_;conv=>whnf)|refine AU ?_|(refine IW ?_ ?_<;>intro h<;>try(exfalso;omega)))<;>conv=>whnf)
    clear hI hq;refine CALL.aA [6] (Z2 (out) (Zj t.t) hw1) ?_;rintro r O' nx' ⟨rfl,rfl,rfl⟩;conv=>whnf
    have hI:I64 (t.y.length:Int):=⟨by omega,by omega⟩;have hq:=ZJ hI;repeat'((first|(refine LOOP.once Z1 ?_;conv=>whnf)|refine CALL.value (Zz (t.y.length:Int) hI) rfl rfl ?_|(refine NEED.mk (by simp;omega) ?_;conv=>whnf)|refine AU ?_|(refine IW ?_ ?_<;>intro h<;>try(exfalso;omega)))<;>conv=>whnf)
    clear hI hq;refine CALL.aA [6] (Z2 (out++Zj t.t) (Zj t.y) hw2) ?_;rintro r O' nx' ⟨rfl,rfl,rfl⟩;conv=>whnf
    have hI:I64 (t.l.length:Int):=⟨by omega,by omega⟩;have hq:=ZJ hI;repeat'((first|(refine LOOP.once Z1 ?_;conv=>whnf)|refine CALL.value (Zz (t.l.length:Int) hI) rfl rfl ?_|(refine NEED.mk (by simp;omega) ?_;conv=>whnf)|refine AU ?_|(refine IW ?_ ?_<;>intro h<;>try(exfalso;omega)))<;>conv=>whnf)
    clear hI hq;refine CALL.aA [6] (Z2 ((out++Zj t.t)++Zj t.y) (Zj t.l) hw3) ?_;rintro r O' nx' ⟨rfl,rfl,rfl⟩;conv=>whnf
    repeat'((first|(refine LOOP.once Z1 ?_;conv=>whnf)|refine CALL.value (Zz t.k ht1) rfl rfl ?_|refine AU ?_|(refine IW ?_ ?_<;>intro h<;>try(exfalso;omega)))<;>conv=>whnf)
    have hw:(((out++Zj t.t)++Zj t.y)++Zj t.l).length+(itoa t.k).length<=140737488355328:=by simp only[List.length_append];omega
    refine CALL.aA [6] (Z2 (((out++Zj t.t)++Zj t.y)++Zj t.l) (itoa t.k) hw) ?_;rintro r O' nx' ⟨rfl,rfl,rfl⟩;clear hw;have hw:((((out++Zj t.t)++Zj t.y)++Zj t.l)++itoa t.k).length+([32]:LB).length<=140737488355328:=by simp only[List.length_append,List.length_cons,List.length_nil];omega
    conv=>whnf
    repeat'((first|refine AU ?_|(refine IW ?_ ?_<;>intro h<;>try(exfalso;omega)))<;>conv=>whnf)
    refine CALL.aA [6] (Z2 ((((out++Zj t.t)++Zj t.y)++Zj t.l)++itoa t.k) [32] hw) ?_;rintro r O' nx' ⟨rfl,rfl,rfl⟩;clear hw;conv=>whnf
    repeat'((first|refine AU ?_|(refine IW ?_ ?_<;>intro h<;>try(exfalso;omega)))<;>conv=>whnf)
    refine⟨2,by omega,by omega,?_⟩;dsimp only;rw[hst];conv=>whnf
    exact GOES.cA h0
  ·have hst:preS cl x s 3=preS cl x s 2++Vf (seeM cl x s.c s.q.o):=by simp[preS,Z2B]
   have hol:=Z2C (x:=x) hs hN hc (k:=2) (by omega);obtain⟨hn0,hn1⟩:=hs.c;obtain⟨ht0,ht1⟩:=hs.to;generalize preS cl x s 2=out at hst hol⊢;generalize s.c=n at hst hn0 hn1⊢;generalize s.q.o=t at hst ht0 ht1⊢;conv=>whnf
   repeat'((first|refine AU ?_|(refine IW ?_ ?_<;>intro h<;>try(exfalso;omega)))<;>conv=>whnf)
   ·have hw:out.length+([64]:LB).length<=140737488355328:=by simp only[List.length_cons,List.length_nil];omega
    refine CALL.aA [6] (Z2 out [64] hw) ?_;rintro r O' nx' ⟨rfl,rfl,rfl⟩;clear hw;have hw:(out++ [64]).length+([32]:LB).length<=140737488355328:=by simp only[List.length_append,List.length_cons,List.length_nil];omega
    conv=>whnf
    repeat'((first|refine AU ?_|(refine IW ?_ ?_<;>intro h<;>try(exfalso;omega)))<;>conv=>whnf)
    refine CALL.aA [6] (Z2 (out++ [64]) [32] hw) ?_;rintro r O' nx' ⟨rfl,rfl,rfl⟩;clear hw;conv=>whnf
    repeat'((first|refine AU ?_|(refine IW ?_ ?_<;>intro h<;>try(exfalso;omega)))<;>conv=>whnf)
    refine⟨3,by omega,by omega,?_⟩;dsimp only;rw[hst,WF h,<-List.append_assoc];conv=>whnf
    exact GOES.cA h0
   ·have hnl:n.toNat<cl.length:=by omega
    have hci:=hc _ (List.getElem_mem hnl);have hI:I64 cl[n.toNat]:=⟨by omega,by omega⟩;have hil:=ZJ hI;have hg:=Jj hnl;rw[Z1j hc (by assumption) h hnl,<-List.append_assoc]at hst;generalize cl[n.toNat]=c at hci hI hil hg hst⊢;repeat'((first|(show DRAWN _ _ _ _ _ _ _;first|refine DRAWN.of (id:=14) Z1 mixed YT (by kernel_rfl) ?_)|refine ADD.mk (fun _ _=>?_)|refine AD ?_|refine FORK.mk ?_ ?_|refine CALL.value (Zz c hI) rfl rfl ?_|(refine GET.at (row:=Zo c) (by rw[Nat.zero_add];exact hg) ?_;conv=>whnf)|refine AU ?_|(refine IW ?_ ?_<;>intro h<;>try(exfalso;omega)))<;>conv=>whnf)
    have hw:out.length+([35]++itoa c).length<=140737488355328:=by simp only[List.length_append,List.length_cons,List.length_nil];omega
    refine CALL.aA [6] (Z2 out ([35]++itoa c) hw) ?_;rintro r O' nx' ⟨rfl,rfl,rfl⟩;clear hw;repeat'((first|(show DRAWN _ _ _ _ _ _ _;first|refine DRAWN.of (id:=14) Z1 mixed YT (by kernel_rfl) ?_)|refine ADD.mk (fun _ _=>?_)|refine AD ?_|refine FORK.mk ?_ ?_|refine AU ?_|(refine IW ?_ ?_<;>intro h<;>try(exfalso;omega)))<;>conv=>whnf)
    have hw:(out++([35]++itoa c)).length+([32]:LB).length<=140737488355328:=by simp only[List.length_append,List.length_cons,List.length_nil];omega
    conv=>whnf
    repeat'((first|refine AU ?_|(refine IW ?_ ?_<;>intro h<;>try(exfalso;omega)))<;>conv=>whnf)
    refine CALL.aA [6] (Z2 (out++([35]++itoa c)) [32] hw) ?_;rintro r O' nx' ⟨rfl,rfl,rfl⟩;clear hw;conv=>whnf
    repeat'((first|refine AU ?_|(refine IW ?_ ?_<;>intro h<;>try(exfalso;omega)))<;>conv=>whnf)
    refine⟨3,by omega,by omega,?_⟩;dsimp only;rw[hst];conv=>whnf
    exact GOES.cA h0
   ·rw[WG h]at hst;have h1:=YE (s:=t.t) (N:=N) (by omega) hN;have h2:=YE (s:=t.y) (N:=N) (by omega) hN;have h3:=YE (s:=t.l) (N:=N) (by omega) hN;have hil:=ZJ ht1;have hw1:out.length+(Zj t.t).length<=140737488355328:=by omega
    have hw2:(out++Zj t.t).length+(Zj t.y).length<=140737488355328:=by rw[List.length_append];omega
    have hw3:((out++Zj t.t)++Zj t.y).length+(Zj t.l).length<=140737488355328:=by rw[List.length_append,List.length_append];omega
    have hI:I64 (t.t.length:Int):=⟨by omega,by omega⟩;have hq:=ZJ hI;repeat'((first|(refine LOOP.once Z1 ?_;conv=>whnf)|refine CALL.value (Zz (t.t.length:Int) hI) rfl rfl ?_|(refine NEED.mk (by simp;omega) ?_;conv=>whnf)|refine AU ?_|(refine IW ?_ ?_<;>intro h<;>try(exfalso;omega)))<;>conv=>whnf)
    clear hI hq;refine CALL.aA [6] (Z2 (out) (Zj t.t) hw1) ?_;rintro r O' nx' ⟨rfl,rfl,rfl⟩;conv=>whnf
    have hI:I64 (t.y.length:Int):=⟨by omega,by omega⟩;have hq:=ZJ hI;repeat'((first|(refine LOOP.once Z1 ?_;conv=>whnf)|refine CALL.value (Zz (t.y.length:Int) hI) rfl rfl ?_|(refine NEED.mk (by simp;omega) ?_;conv=>whnf)|refine AU ?_|(refine IW ?_ ?_<;>intro h<;>try(exfalso;omega)))<;>conv=>whnf)
    clear hI hq;refine CALL.aA [6] (Z2 (out++Zj t.t) (Zj t.y) hw2) ?_;rintro r O' nx' ⟨rfl,rfl,rfl⟩;conv=>whnf
    have hI:I64 (t.l.length:Int):=⟨by omega,by omega⟩;have hq:=ZJ hI;repeat'((first|(refine LOOP.once Z1 ?_;conv=>whnf)|refine CALL.value (Zz (t.l.length:Int) hI) rfl rfl ?_|(refine NEED.mk (by simp;omega) ?_;conv=>whnf)|refine AU ?_|(refine IW ?_ ?_<;>intro h<;>try(exfalso;omega)))<;>conv=>whnf)
    clear hI hq;refine CALL.aA [6] (Z2 ((out++Zj t.t)++Zj t.y) (Zj t.l) hw3) ?_;rintro r O' nx' ⟨rfl,rfl,rfl⟩;conv=>whnf
    repeat'((first|(refine LOOP.once Z1 ?_;conv=>whnf)|refine CALL.value (Zz t.k ht1) rfl rfl ?_|refine AU ?_|(refine IW ?_ ?_<;>intro h<;>try(exfalso;omega)))<;>conv=>whnf)
    have hw:(((out++Zj t.t)++Zj t.y)++Zj t.l).length+(itoa t.k).length<=140737488355328:=by simp only[List.length_append];omega
    refine CALL.aA [6] (Z2 (((out++Zj t.t)++Zj t.y)++Zj t.l) (itoa t.k) hw) ?_;rintro r O' nx' ⟨rfl,rfl,rfl⟩;clear hw;have hw:((((out++Zj t.t)++Zj t.y)++Zj t.l)++itoa t.k).length+([32]:LB).length<=140737488355328:=by simp only[List.length_append,List.length_cons,List.length_nil];omega
    conv=>whnf
    repeat'((first|refine AU ?_|(refine IW ?_ ?_<;>intro h<;>try(exfalso;omega)))<;>conv=>whnf)
    refine CALL.aA [6] (Z2 ((((out++Zj t.t)++Zj t.y)++Zj t.l)++itoa t.k) [32] hw) ?_;rintro r O' nx' ⟨rfl,rfl,rfl⟩;clear hw;conv=>whnf
    repeat'((first|refine AU ?_|(refine IW ?_ ?_<;>intro h<;>try(exfalso;omega)))<;>conv=>whnf)
    refine⟨3,by omega,by omega,?_⟩;dsimp only;rw[hst];conv=>whnf
    exact GOES.cA h0
  ·have hst:preS cl x s 4=preS cl x s 3++Vf (seeM cl x s.d s.q.g):=by simp[preS,Z2B]
   have hol:=Z2C (x:=x) hs hN hc (k:=3) (by omega);obtain⟨hn0,hn1⟩:=hs.d;obtain⟨ht0,ht1⟩:=hs.tg;generalize preS cl x s 3=out at hst hol⊢;generalize s.d=n at hst hn0 hn1⊢;generalize s.q.g=t at hst ht0 ht1⊢;conv=>whnf
   repeat'((first|refine AU ?_|(refine IW ?_ ?_<;>intro h<;>try(exfalso;omega)))<;>conv=>whnf)
   ·have hw:out.length+([64]:LB).length<=140737488355328:=by simp only[List.length_cons,List.length_nil];omega
    refine CALL.aA [6] (Z2 out [64] hw) ?_;rintro r O' nx' ⟨rfl,rfl,rfl⟩;clear hw;have hw:(out++ [64]).length+([32]:LB).length<=140737488355328:=by simp only[List.length_append,List.length_cons,List.length_nil];omega
    conv=>whnf
    repeat'((first|refine AU ?_|(refine IW ?_ ?_<;>intro h<;>try(exfalso;omega)))<;>conv=>whnf)
    refine CALL.aA [6] (Z2 (out++ [64]) [32] hw) ?_;rintro r O' nx' ⟨rfl,rfl,rfl⟩;clear hw;conv=>whnf
    repeat'((first|refine AU ?_|(refine IW ?_ ?_<;>intro h<;>try(exfalso;omega)))<;>conv=>whnf)
    refine⟨4,by omega,by omega,?_⟩;dsimp only;rw[hst,WF h,<-List.append_assoc];conv=>whnf
    exact GOES.cA h0
   ·have hnl:n.toNat<cl.length:=by omega
    have hci:=hc _ (List.getElem_mem hnl);have hI:I64 cl[n.toNat]:=⟨by omega,by omega⟩;have hil:=ZJ hI;have hg:=Jj hnl;rw[Z1j hc (by assumption) h hnl,<-List.append_assoc]at hst;generalize cl[n.toNat]=c at hci hI hil hg hst⊢;repeat'((first|(show DRAWN _ _ _ _ _ _ _;first|refine DRAWN.of (id:=14) Z1 mixed YT (by kernel_rfl) ?_)|refine ADD.mk (fun _ _=>?_)|refine AD ?_|refine FORK.mk ?_ ?_|refine CALL.value (Zz c hI) rfl rfl ?_|(refine GET.at (row:=Zo c) (by rw[Nat.zero_add];exact hg) ?_;conv=>whnf)|refine AU ?_|(refine IW ?_ ?_<;>intro h<;>try(exfalso;omega)))<;>conv=>whnf)
    have hw:out.length+([35]++itoa c).length<=140737488355328:=by simp only[List.length_append,List.length_cons,List.length_nil];omega
    refine CALL.aA [6] (Z2 out ([35]++itoa c) hw) ?_;rintro r O' nx' ⟨rfl,rfl,rfl⟩;clear hw;repeat'((first|(show DRAWN _ _ _ _ _ _ _;first|refine DRAWN.of (id:=14) Z1 mixed YT (by kernel_rfl) ?_)|refine ADD.mk (fun _ _=>?_)|refine AD ?_|refine FORK.mk ?_ ?_|refine AU ?_|(refine IW ?_ ?_<;>intro h<;>try(exfalso;omega)))<;>conv=>whnf)
    have hw:(out++([35]++itoa c)).length+([32]:LB).length<=140737488355328:=by simp only[List.length_append,List.length_cons,List.length_nil];omega
    conv=>whnf
    repeat'((first|refine AU ?_|(refine IW ?_ ?_<;>intro h<;>try(exfalso;omega)))<;>conv=>whnf)
    refine CALL.aA [6] (Z2 (out++([35]++itoa c)) [32] hw) ?_;rintro r O' nx' ⟨rfl,rfl,rfl⟩;clear hw;conv=>whnf
    repeat'((first|refine AU ?_|(refine IW ?_ ?_<;>intro h<;>try(exfalso;omega)))<;>conv=>whnf)
    refine⟨4,by omega,by omega,?_⟩;dsimp only;rw[hst];conv=>whnf
    exact GOES.cA h0
   ·rw[WG h]at hst;have h1:=YE (s:=t.t) (N:=N) (by omega) hN;have h2:=YE (s:=t.y) (N:=N) (by omega) hN;have h3:=YE (s:=t.l) (N:=N) (by omega) hN;have hil:=ZJ ht1;have hw1:out.length+(Zj t.t).length<=140737488355328:=by omega
    have hw2:(out++Zj t.t).length+(Zj t.y).length<=140737488355328:=by rw[List.length_append];omega
    have hw3:((out++Zj t.t)++Zj t.y).length+(Zj t.l).length<=140737488355328:=by rw[List.length_append,List.length_append];omega
    have hI:I64 (t.t.length:Int):=⟨by omega,by omega⟩;have hq:=ZJ hI;repeat'((first|(refine LOOP.once Z1 ?_;conv=>whnf)|refine CALL.value (Zz (t.t.length:Int) hI) rfl rfl ?_|(refine NEED.mk (by simp;omega) ?_;conv=>whnf)|refine AU ?_|(refine IW ?_ ?_<;>intro h<;>try(exfalso;omega)))<;>conv=>whnf)
    clear hI hq;refine CALL.aA [6] (Z2 (out) (Zj t.t) hw1) ?_;rintro r O' nx' ⟨rfl,rfl,rfl⟩;conv=>whnf
    have hI:I64 (t.y.length:Int):=⟨by omega,by omega⟩;have hq:=ZJ hI;repeat'((first|(refine LOOP.once Z1 ?_;conv=>whnf)|refine CALL.value (Zz (t.y.length:Int) hI) rfl rfl ?_|(refine NEED.mk (by simp;omega) ?_;conv=>whnf)|refine AU ?_|(refine IW ?_ ?_<;>intro h<;>try(exfalso;omega)))<;>conv=>whnf)
    clear hI hq;refine CALL.aA [6] (Z2 (out++Zj t.t) (Zj t.y) hw2) ?_;rintro r O' nx' ⟨rfl,rfl,rfl⟩;conv=>whnf
    have hI:I64 (t.l.length:Int):=⟨by omega,by omega⟩;have hq:=ZJ hI;repeat'((first|(refine LOOP.once Z1 ?_;conv=>whnf)|refine CALL.value (Zz (t.l.length:Int) hI) rfl rfl ?_|(refine NEED.mk (by simp;omega) ?_;conv=>whnf)|refine AU ?_|(refine IW ?_ ?_<;>intro h<;>try(exfalso;omega)))<;>conv=>whnf)
    clear hI hq;refine CALL.aA [6] (Z2 ((out++Zj t.t)++Zj t.y) (Zj t.l) hw3) ?_;rintro r O' nx' ⟨rfl,rfl,rfl⟩;conv=>whnf
    repeat'((first|(refine LOOP.once Z1 ?_;conv=>whnf)|refine CALL.value (Zz t.k ht1) rfl rfl ?_|refine AU ?_|(refine IW ?_ ?_<;>intro h<;>try(exfalso;omega)))<;>conv=>whnf)
    have hw:(((out++Zj t.t)++Zj t.y)++Zj t.l).length+(itoa t.k).length<=140737488355328:=by simp only[List.length_append];omega
    refine CALL.aA [6] (Z2 (((out++Zj t.t)++Zj t.y)++Zj t.l) (itoa t.k) hw) ?_;rintro r O' nx' ⟨rfl,rfl,rfl⟩;clear hw;have hw:((((out++Zj t.t)++Zj t.y)++Zj t.l)++itoa t.k).length+([32]:LB).length<=140737488355328:=by simp only[List.length_append,List.length_cons,List.length_nil];omega
    conv=>whnf
    repeat'((first|refine AU ?_|(refine IW ?_ ?_<;>intro h<;>try(exfalso;omega)))<;>conv=>whnf)
    refine CALL.aA [6] (Z2 ((((out++Zj t.t)++Zj t.y)++Zj t.l)++itoa t.k) [32] hw) ?_;rintro r O' nx' ⟨rfl,rfl,rfl⟩;clear hw;conv=>whnf
    repeat'((first|refine AU ?_|(refine IW ?_ ?_<;>intro h<;>try(exfalso;omega)))<;>conv=>whnf)
    refine⟨4,by omega,by omega,?_⟩;dsimp only;rw[hst];conv=>whnf
    exact GOES.cA h0
 ·have hk:k=4:=by simp at h;omega
  subst hk;rw[ZbC];conv=>whnf
  repeat'((first|refine AU ?_|(refine IW ?_ ?_<;>intro h<;>try(exfalso;omega)))<;>conv=>whnf)
  refine CALL.aA [6] (Z2A (Xc (sgM cl x s))) ?_;rintro r O' nx' ⟨rfl,rfl,rfl⟩;conv=>whnf
  exact FIN.valueK h0 rfl rfl
end Go.Proofs.YtbfbokdccdagkaaGreatDoor
namespace Go.Proofs.YtbfbokdccdagkaaGreatDoor
open Go.Sx Go.Our Go.Lib
open Tryz
def lenS(l:List LB):Nat:=(l.map List.length).sum
theorem Z2D{l:List LB}{i:Nat}(h:i<l.length):lenS (l.take (i+1))=lenS (l.take i)+l[i].length:=by
 unfold lenS;rw[List.take_succ_eq_append_getElem h,List.map_append,List.sum_append_nat];rfl
theorem Z2E(l:List LB)(i:Nat):lenS (l.take i)<=lenS l:=by
 have:lenS l=lenS (l.take i)+lenS (l.drop i):=by unfold lenS;rw[<-List.sum_append_nat,<-List.map_append,List.take_append_drop]
 omega
theorem Z4S(l:List LB):(V3 l).length=l.length+lenS l:=by
 induction l with
 |nil=>rfl
 |cons a l ih=>simp only[V3,List.length_cons,List.length_append,ih,lenS,List.map_cons,List.sum_cons];omega
theorem ZbE{l:List LB}{i:Nat}(h:i<l.length):V3 (l.take (i+1))=(V3 (l.take i)++ [10])++l[i]:=by
 rw[List.take_succ_eq_append_getElem h];generalize l.take i=m
 induction m with
 |nil=>simp[V3]
 |cons a m ih=>simp[V3,ih]
theorem Zdw{n:Nat}(h1:2<=n)(h2:n<=35184372088832):1<IntKind.i64.wrap (Int.tdiv 9223372036854775807 ((n:Int)-1)):=by
 have e:((n:Int)-1)=((n-1:Nat):Int):=by omega
 rw[e,show(9223372036854775807:Int)=((9223372036854775807:Nat):Int)from rfl,<-Int.ofNat_tdiv];have h3:2<=9223372036854775807/ (n-1):=by rw[Nat.le_div_iff_mul_le (by omega)];omega
 have h4:9223372036854775807/ (n-1)<=9223372036854775807:=Nat.div_le_self _ _;rw[Z6 (by omega) (by omega)];omega
theorem ZbF(l:List LB)(hl:(V3 l).length<=35184372088832):
 Does prog tab 99 1 [.sl (.loc 0) 0 1 l.length none, .str [10]] [] [(0, .rows 1 (l.map Z3))] (ValK 1 (.str (UB l))):=by
 rw[Z4S]at hl;by_cases h0':l=[]
 ·subst h0';refine Does.enter Z1 call99 func99 rfl 75 rfl rfl [.tmp 4] rfl ?_;intro w0 F η0 h0;conv=>whnf
  repeat'((first|refine AU ?_|(refine IW ?_ ?_<;>intro h<;>try(exfalso;omega)))<;>conv=>whnf)
  exact FIN.valueK h0 rfl rfl
 by_cases h1':l.length=1
 ·obtain⟨a,rfl⟩:=List.length_eq_one_iff.1 h1';refine Does.enter Z1 call99 func99 rfl 75 rfl rfl [.tmp 4] rfl ?_;intro w0 F η0 h0;conv=>whnf
  repeat'((first|(refine GET.at (row:=Z3 a) rfl ?_;conv=>whnf)|refine AU ?_|(refine IW ?_ ?_<;>intro h<;>try(exfalso;omega)))<;>conv=>whnf)
  exact FIN.valueK h0 rfl (congrArg SV.str (by simp[UB,V3]))
 have h2:2<=l.length:=by
  have:=List.length_pos_iff.2 h0';omega
 have hq:=Zdw h2 (by omega);have hlt0:0<l.length:=by omega
 have hg0:=Z2E l 1;rw[Z2D hlt0,show lenS (l.take 0)=0 from rfl]at hg0;refine Does.enter Z1 call99 func99 rfl 75 rfl rfl [.tmp 4] rfl ?_;intro w0 F η0 h0;conv=>whnf
 repeat'((first|refine AU ?_|(refine IW ?_ ?_<;>intro h<;>try(exfalso;omega)))<;>conv=>whnf)
 refine LOOP.go Z1 [0,1,39,40] (X:=Nat) (fun i=>i<=l.length) (fun i=>[(41, .int .i64 (i:Int)),(5, .int .i64 ((l.length:Int)-1+(lenS (l.take i):Int)))]) (fun _=>[]) 1 (fun i=>l.length-i) 0 (by omega) ?_;conv=>whnf
 refine⟨by rw[show lenS (l.take 0)=0 from rfl];exact GOES.cA h0,?_⟩;intro i hi;have hle:=Z2E l i;conv=>whnf
 by_cases hil:i<l.length
 ·have hst:=Z2D hil;have hle2:=Z2E l (i+1);repeat'((first|(refine GET.at (row:=Z3 l[i]) (YP hil (by omega)) ?_;conv=>whnf)|refine AU ?_|(refine IW ?_ ?_<;>intro h<;>try(exfalso;omega)))<;>conv=>whnf)
  refine⟨i+1,by omega,by omega,?_⟩;rw[hst];conv=>whnf
  exact GOES.cA h0
 ·have hie:i=l.length:=by omega
  subst hie;rw[List.take_length];have hn:((l.length:Int)-1+(lenS l:Int))=((l.length-1+lenS l:Nat):Int):=by omega
  rw[hn];conv=>whnf
  repeat'((first|refine AU ?_|(refine IW ?_ ?_<;>intro h<;>try(exfalso;omega)))<;>conv=>whnf)
  refine CALL.aA [1] (ZbD (l.length-1+lenS l) (by omega)) ?_;rintro r O' nx' ⟨rfl,rfl,rfl⟩;conv=>whnf
  repeat'((first|(refine GET.at (row:=Z3 l[0]) (YP hlt0 rfl) ?_;conv=>whnf)|refine AU ?_|(refine IW ?_ ?_<;>intro h<;>try(exfalso;omega)))<;>conv=>whnf)
  have hw:([]:LB).length+l[0].length<=140737488355328:=by simp only[List.length_nil];omega
  refine CALL.aA [1] (Z2 [] l[0] hw) ?_;rintro r O' nx' ⟨rfl,rfl,rfl⟩;clear hw;conv=>whnf
  repeat'((first|refine AU ?_|(refine IW ?_ ?_<;>intro h<;>try(exfalso;omega)))<;>conv=>whnf)
  have hm:l.tail.length=l.length-1:=List.length_tail
  have hml:l[0].length+lenS l.tail<=lenS l:=by
   obtain⟨a,m,rfl⟩:=List.exists_cons_of_ne_nil h0';simp[lenS]
  refine LOOP.gok Z1 [1,8,63,64] [] (X:=Nat) (fun i=>i<=l.tail.length) (fun i=>[(65, .int .i64 (i:Int))]) (fun i=>[(1, .bld TB TU (l[0]++V3 (l.tail.take i)))]) 2 (fun i=>l.tail.length-i) 0 (by omega) ?_;conv=>whnf
  refine⟨by rw[show l[0]++V3 (l.tail.take 0)=[]++l[0]by simp[V3]];exact GOES.cA h0,?_⟩;intro i hi;have hti:=Z4S (l.tail.take i);have htl:=Z2E l.tail i;rw[List.length_take]at hti;conv=>whnf
  by_cases hil:i<l.tail.length
  ·have hst:=ZbE hil;have hile:=Z2E l.tail (i+1);rw[Z2D hil]at hile
   have hg:(l.map Z3)[i+1]?=some (Z3 l.tail[i]):=by
    rw[List.getElem?_map,List.getElem_tail,List.getElem?_eq_getElem (by omega)];rfl
   generalize V3 (l.tail.take i)=out at hst hti⊢;generalize l.tail[i]=s at hst hile hg;generalize l[0]=a at hml hst⊢;repeat'((first|(refine GET.at (row:=Z3 s) (by rw[<-hg];congr 1;omega) ?_;conv=>whnf)|refine AU ?_|(refine IW ?_ ?_<;>intro h<;>try(exfalso;omega)))<;>conv=>whnf)
   have hw:(a++out).length+([10]:LB).length<=140737488355328:=by simp only[List.length_append,List.length_cons,List.length_nil];omega
   refine CALL.aA [1] (Z2 (a++out) [10] hw) ?_;rintro r O' nx' ⟨rfl,rfl,rfl⟩;clear hw;conv=>whnf
   repeat'((first|refine AU ?_|(refine IW ?_ ?_<;>intro h<;>try(exfalso;omega)))<;>conv=>whnf)
   have hw:((a++out)++ [10]).length+s.length<=140737488355328:=by simp only[List.length_append,List.length_cons,List.length_nil];omega
   refine CALL.aA [1] (Z2 ((a++out)++ [10]) s hw) ?_;rintro r O' nx' ⟨rfl,rfl,rfl⟩;clear hw;conv=>whnf
   repeat'((first|refine AU ?_|(refine IW ?_ ?_<;>intro h<;>try(exfalso;omega)))<;>conv=>whnf)
   refine⟨i+1,by omega,by omega,?_⟩;rw[hst,show a++((out++ [10])++s)=((a++out)++ [10])++s by simp];conv=>whnf
   exact GOES.cA h0
  ·have hie:i=l.tail.length:=by omega
   subst hie;rw[List.take_length];repeat'((first|refine AU ?_|(refine IW ?_ ?_<;>intro h<;>try(exfalso;omega)))<;>conv=>whnf)
   refine CALL.aA [1] (Z2A (l[0]++V3 l.tail)) ?_;rintro r O' nx' ⟨rfl,rfl,rfl⟩;conv=>whnf
   refine FIN.valueK h0 rfl (congrArg SV.str ?_);obtain⟨a,m,rfl⟩:=List.exists_cons_of_ne_nil h0'
   rfl
open Tryz
def Z7p:Plan:=(ZU [(0,1),(2,1),(3,1),(4,1),(1,2),(5,2),(6,1),(7,1)])
def Yf(cl:List Int)(ins:List (List Sd)):List LB:=(List.range cl.length).map (keyM cl ins)
theorem WH(cl:List Int)(ins:List (List Sd)):(Yf cl ins).length=cl.length:=by simp[Yf]
theorem Z4V{cl:List Int}{ins:List (List Sd)}{x:Nat}(h:x< (Yf cl ins).length):(Yf cl ins)[x]=keyM cl ins x:=by simp[Yf]
theorem ZbJ{b:Int}{A B:List LB}:∀{i:Nat},i<=A.length->Jk b (A++B) i=Jk b A i
 |0,_=>rfl
 |i+1,h=>by
  rw[JW (show i< (A++B).length by rw[List.length_append];omega),JW (show i<A.length by omega),ZbJ (by omega),List.getElem_append_left]
theorem Zdy{b:Int}{A:List LB}{k:LB}:Jk b (A++ [k]) (A++ [k]).length=setA k (b+A.length) (Jk b A A.length):=by
 rw[show(A++ [k]).length=A.length+1 by simp,JW (by simp),ZbJ (Nat.le_refl _)];simp
theorem Z7q{b:Int}{A:List LB}(hn:A.Nodup):∀{i:Nat},i<=A.length->(Jk b A i).length=i
 |0,_=>rfl
 |i+1,h=>by
  rw[JW (by omega),Wv]
  ·rw[List.length_append,Z7q hn (by omega)];rfl
  ·have hg:=Z4T (b:=b) hn i A[i] (by omega);rw[hn.idxOf_getElem i (by omega),dif_neg (by omega)]at hg;cases hx:ixA A[i] (Jk b A i)with
   |none=>rfl
   |some p=>obtain⟨j,v⟩:=p;rw[Ji hx]at hg;cases hg
def Z0i(ks:List LB)(n x:Nat):List Int:=(YS ks).take x++List.replicate (n-x) 0
theorem Z8o{ks:List LB}{n x:Nat}{v:Int}(hk:ks.length=n)(hx:x<n)(hv:(YS ks)[x]?=some v):(Z0i ks n x).set x v=Z0i ks n (x+1):=by
 have hl:((YS ks).take x).length=x:=by rw[List.length_take,VB];omega
 unfold Z0i;rw[List.set_append_right _ _ (by omega),hl,Nat.sub_self,show n-x=(n-(x+1))+1 by omega,List.replicate_succ,List.set_cons_zero];have hx2:x< (YS ks).length:=by rw[VB];omega
 rw[List.take_succ_eq_append_getElem hx2,List.append_assoc];rw[List.getElem?_eq_getElem hx2]at hv;injection hv with hv;rw[hv];rfl
theorem Zdz{ks:List LB}{n x:Nat}(hk:ks.length=n)(hx:x<=n):(Z0i ks n x).length=n:=by
 unfold Z0i;rw[List.length_append,List.length_take,List.length_replicate,VB];omega
theorem ZdA{ks:List LB}{n:Nat}(hk:ks.length=n):Z0i ks n n=YS ks:=by
 unfold Z0i;rw[Nat.sub_self,List.replicate_zero,List.append_nil,List.take_of_length_le (by rw[VB];omega)]
theorem Z9u{l:List LB}{B:Nat}(h:∀x∈l,x.length<=B):lenS l<=l.length*B:=by
 induction l with
 |nil=>simp[lenS]
 |cons a l ih=>
  have h1:=h a (List.mem_cons_self ..);have h2:=ih fun x hx=>h x (List.mem_cons_of_mem _ hx);simp only[lenS,List.map_cons,List.sum_cons,List.length_cons]at h2⊢;rw[Nat.add_mul];omega
theorem ZbK{cl:List Int}{x:Nat}{s:Sd}{N:Nat}(hs:SdOK N cl.length s)(hN:N<=1099511627776)(hc:∀c∈cl,0<=c/\c<4611686018427387904):(Xc (sgM cl x s)).length<=4*(N+91):=by
 rw[<-ZbC];exact Z2C hs hN hc (Nat.le_refl _)
structure WOK(cl:List Int)(ins:List (List Sd)):Prop where
 len:ins.length=cl.length
 cs:∀c∈cl,0<=c/\c<67108864
 sd:∀l∈ins,∀s∈l,SdOK 1048576 cl.length s
 few:∀l∈ins,l.length<=4194304
 n:cl.length<=67108864
theorem ZbL{cl:List Int}{ins:List (List Sd)}(h:WOK cl ins){x:Nat}(hx:x<ins.length):(Jf cl ins x).length=ins[x].length/\(V3 (Jf cl ins x)).length<=35184372088832:=by
 have hl:(Jf cl ins x).length=ins[x].length:=by
  unfold Jf Yg;rw[List.length_mergeSort,List.length_map,List.length_map,List.getD_eq_getElem?_getD,List.getElem?_eq_getElem hx,Option.getD_some]
 refine⟨hl,?_⟩;rw[Z4S,hl]
 have hb:=Z9u (l:=Jf cl ins x) (B:=4194668) (fun t ht=>by
  have ht:t∈(Yg cl ins x).map Xc:=(List.mergeSort_perm _ _).mem_iff.1 ht;obtain⟨s,hs,rfl⟩:=List.mem_map.1 ht;unfold Yg at hs;rw[List.getD_eq_getElem?_getD,List.getElem?_eq_getElem hx,Option.getD_some]at hs;obtain⟨d,hd,rfl⟩:=List.mem_map.1 hs
  exact ZbK (N:=1048576) (h.sd _ (List.getElem_mem hx) d hd) (by omega) (fun c hc=>⟨(h.cs c hc).1,by have:=(h.cs c hc).2;omega⟩))
 rw[hl]at hb;have:=h.few _ (List.getElem_mem hx);omega
theorem Z8p{ins:List (List Sd)}{x k:Nat}(h:x<ins.length)(hk:k=x):Z2O (inD ins) k 0=some (k, .kid 20 (ins[x].map VW)):=by
 subst hk;unfold Z2O;rw[Z3z h];rfl
theorem Z0Q{l:List Int}{k x:Nat}{v:Int}(hk:k=x):(l.map Zo).set k [.int .i64 v]=(l.set x v).map Zo:=by
 subst hk;exact Z84 Zo l k v
theorem ZbM{ins:List (List Sd)}{x k:Nat}{sv:SV}(h:x<ins.length)(hk:k=x):((inD ins).modify k fun row=>row.set 0 (DC.v sv))[x]?=some [.v sv]:=by
 subst hk;show(setC _ _ _ _)[k]?=_
 rw[ZR,if_pos rfl,Z3z h];rfl
theorem ZbN{ins:List (List Sd)}{x k:Nat}{sv:SV}(h:x<ins.length)(hk:k=x):setC ((inD ins).modify k fun row=>row.set 0 (DC.v sv)) x 0 (.kid 20 ((ins[x].map VW).take ins[x].length))=inD ins:=by
 subst hk;show setC (setC _ _ _ _) _ _ _=_
 rw[setC_setC,List.take_of_length_le (by rw[List.length_map];exact Nat.le_refl _)];apply List.ext_getElem?;intro a;rw[ZR];by_cases ha:a=k
 ·subst ha;rw[if_pos rfl,Z3z h];rfl
 ·rw[if_neg ha]
theorem Z7r(cl:List Int)(ins:List (List Sd))(nl ng:Nat)(ct:Int)(h:WOK cl ins):
 Does prog tab 69 5 [.ptr (.loc 0) 0 0 0] [(0,wBx 2 nl cl.length ins.length ng ct),(2, .rows 1 (cl.map Zo)),(3, .deep false 1 (inD ins))] []
 (fun r O nx=>r= .bool (decide (ct< ((Zx (Yf cl ins)).length:Int)))/\O=[(0,wBx 5 nl cl.length ins.length ng (Zx (Yf cl ins)).length),(3, .deep false 1 (inD ins)),(5, .rows 1 ((YS (Yf cl ins)).map Zo))]/\nx=6):=by
 have hln:=h.len;have hn:=h.n;have hkl:=WH cl ins;obtain⟨ks,hks⟩:∃ks,ks=Yf cl ins:=⟨_,rfl⟩;rw[<-hks]at hkl⊢
 have hz:(Z0i ks cl.length 0).map Zo=List.replicate (cl.length:Int).toNat [SV.int .i64 0]:=by
  unfold Z0i;rw[List.take_zero,List.nil_append,List.map_replicate,Nat.sub_zero,Int.toNat_natCast];rfl
 refine Does.enter Z1 call69 func69 rfl 97 rfl rfl [.tmp 2] rfl ?_;intro w0 F η0 h0;conv=>whnf
 repeat'((first|(refine NEED.mk (Z0h 8 rfl (by omega) (by omega) (by omega) (by omega)) ?_;conv=>whnf)|refine AU ?_|(refine IW ?_ ?_<;>intro h<;>try(exfalso;omega)))<;>conv=>whnf)
 rw[<-hz];refine LOOP.gok Z1 [0,3,4,24] [0,2,3] (X:=Nat) (fun x=>x<=cl.length) (fun x=>[(25, .int .i64 (x:Int))]) (fun x=>[(5, .mp (numT (Jk 0 (Zx (ks.take x)) (Zx (ks.take x)).length))),(6, .rows 1 ((Z0i ks cl.length x).map Zo))]) 7 (fun x=>cl.length-x) 0 (by omega) ?_;conv=>whnf
 refine⟨by exact GOES.kA h0 [5,6],?_⟩;intro x hx;conv=>whnf
 refine IF.mk (fun h1=>?_) (fun h1=>?_)
 ·have hlt:x<cl.length:=by simp at h1;omega
  have hxi:x<ins.length:=by omega
  conv=>whnf
  repeat'((first|(refine FINDD.at (Z8p hxi (by omega)) ?_;conv=>whnf)|refine AU ?_|(refine IW ?_ ?_<;>intro h<;>try(exfalso;omega)))<;>conv=>whnf)
  rw[List.length_map];have hfew:=h.few _ (List.getElem_mem hxi);have hsd:=h.sd _ (List.getElem_mem hxi);have htx:=ZbL h hxi;have hsx:Yg cl ins x=ins[x].map (sgM cl x):=by unfold Yg;rw[List.getD_eq_getElem?_getD,List.getElem?_eq_getElem hxi,Option.getD_some]
  obtain⟨T,hT⟩:∃T,T=(Yg cl ins x).map Xc:=⟨_,rfl⟩;have hTl:T.length=ins[x].length:=by rw[hT,hsx];simp
  have hTi:∀(i:Nat) (hi:i<T.length),T[i]=Xc (sgM cl x (ins[x][i]'(by omega))):=fun i hi=>by subst hT;simp[hsx]
  refine LOOP.nil 6 1 rfl ?_;refine LOOP.gok Z1 [0,3,4,5,24,25,34,35] [0,2,3,5,6,7] (X:=Nat) (fun i=>i<=ins[x].length) (fun i=>[(36, .int .i64 (i:Int)),(6, .sl (.loc 8) 0 1 i none)]) (fun i=>[(8, .rows 1 ((T.take i).map Z3))]) 9 (fun i=>ins[x].length-i) 0 (by omega) ?_;conv=>whnf
  refine⟨by exact GOES.cA h0,?_⟩;intro i hi;have hti:(T.take i).length=i:=by rw[List.length_take];omega
  conv=>whnf
  refine IF.mk (fun h2=>?_) (fun h2=>?_)
  ·have hil:i<ins[x].length:=by simp at h2;omega
   have hsi:=hsd _ (List.getElem_mem hil);have hsg:=Z9s cl x ins[x][i] 1048576 hsi (by omega) (fun c hc=>⟨(h.cs c hc).1,by have:=(h.cs c hc).2;omega⟩) (by omega) nl ins.length ng ct;rw[<-hTi i (by omega)]at hsg;conv=>whnf
   repeat'((first|(refine GET.at (row:=VW ins[x][i]) (YP hil (by omega)) ?_;conv=>whnf)|refine AU ?_|(refine IW ?_ ?_<;>intro h<;>try(exfalso;omega)))<;>conv=>whnf)
   refine CALL.aA [0,1,2,3,4] (hsg) ?_;rintro r O nx ⟨rfl,rfl,rfl⟩;conv=>whnf
   repeat'((first|(refine NEED.mk (Yc 16 rfl rfl rfl (by rw[List.length_map,hti];exact Nat.le_refl _) (by omega)) ?_;conv=>whnf)|refine AU ?_|(refine IW ?_ ?_<;>intro h<;>try(exfalso;omega)))<;>conv=>whnf)
   rw[Z4U T (by omega)];refine⟨i+1,by omega,by omega,?_⟩;conv=>whnf
   exact GOES.kA h0 [5,6,7,11]
  ·have hie:i=T.length:=by simp at h2;omega
   subst hie;rw[List.take_length];conv=>whnf
   repeat'((first|refine AU ?_|(refine IW ?_ ?_<;>intro h<;>try(exfalso;omega)))<;>conv=>whnf)
   refine CALL.aA [8] (Un T (by omega)) ?_;rintro r O nx ⟨rfl,rfl,rfl⟩;have hXe:T.mergeSort (leC Our.cmpL)=Jf cl ins x:=by rw[hT];rfl
   rw[hXe];have hXl:(Jf cl ins x).length=T.length:=by omega
   rw[<-hXl];have hci:=h.cs _ (List.getElem_mem hlt);have hI:I64 cl[x]:=⟨by omega,by omega⟩;have hil:=ZJ hI
   have hkx:ks[x]'(by omega)=(itoa cl[x]++ [10])++UB (Jf cl ins x):=by
    subst hks;rw[Z4V];unfold keyM;rw[List.getD_eq_getElem?_getD,List.getElem?_eq_getElem hlt,Option.getD_some];simp
   have hjn:=ZbF (Jf cl ins x) htx.2
   have hjl:(UB (Jf cl ins x)).length<=35184372088832:=by
    have:=htx.2;revert this;cases Jf cl ins x with
    |nil=>simp[UB]
    |cons a l=>simp only[UB,V3,List.length_cons,List.length_append];omega
   generalize Jf cl ins x=X at hkx hjn hjl hXl⊢;conv=>whnf
   repeat'((first|refine CALL.value (Zz cl[x] hI) rfl rfl ?_|(refine GET.at (row:=Zo cl[x]) (YP hlt (by omega)) ?_;conv=>whnf)|(refine NEED.mk (by simp;omega) ?_;conv=>whnf)|refine AU ?_|(refine IW ?_ ?_<;>intro h<;>try(exfalso;omega)))<;>conv=>whnf)
   refine CALL.aA [8] (hjn) ?_;rintro r O nx ⟨rfl,rfl,rfl⟩;conv=>whnf
   repeat'((first|(refine NEED.mk (by simp;omega) ?_;conv=>whnf)|(refine NEED.mk ⟨KT.ok _,YK KT intV _⟩ ?_;conv=>whnf)|refine AU ?_|(refine IW ?_ ?_<;>intro h<;>try(exfalso;omega)))<;>conv=>whnf)
   have hkl2:x<ks.length:=by omega
   have hfs:=Xh ks hkl2;have hold:=Zds ks hkl2;have hnew:=Zdt ks hkl2;have hFn:=Z0P ks x;have hFl:=Z3Q ks x;rw[hkx]at hfs hold hnew;generalize Zx (ks.take x)=F at hfs hold hnew hFn hFl⊢;have hg:=Z4T (b:=0) hFn F.length ((itoa cl[x]++ [10])++UB X) (Nat.le_refl _);have hml:(numT (Jk 0 F F.length)).length=F.length:=by show(VV KT intV _).length=_;unfold VV;rw[List.length_map,Z7q hFn (Nat.le_refl _)]
   have hnx:x< (Z0i ks cl.length x).length:=by rw[Zdz hkl hx];exact hlt
   refine FIND.A KT intV ((itoa cl[x]++ [10])++UB X) (Jk 0 F F.length) (fun i v hf=>?_) (fun hf=>?_)
   ·have hm:(itoa cl[x]++ [10])++UB X∈F:=by
     refine Decidable.byContradiction fun hm=>?_;rw[Ji hf,dif_neg (by rw[List.idxOf_lt_length_iff];exact hm)]at hg;cases hg
    have hv:=Ji hf;rw[hg,dif_pos (List.idxOf_lt_length_of_mem hm)]at hv;injection hv with hv;rw[Int.zero_add]at hv;have hset:=Z8o hkl hlt (hold hm);rw[if_pos hm]at hfs;subst hv;conv=>whnf
    repeat'((first|(refine GET.at (row:=Zo (Z0i ks cl.length x)[x]) (YP hnx (by omega)) ?_;conv=>whnf)|refine AU ?_|(refine IW ?_ ?_<;>intro h<;>try(exfalso;omega)))<;>conv=>whnf)
    rw[Z0Q (x:=x) (by omega),hset];refine⟨x+1,by omega,by omega,?_⟩;rw[hfs];conv=>whnf
    refine GOES.trans (GHO.goes (GHO.putk 3 x 0 7 rfl (ZbM hxi (by omega)) rfl rfl (by rw[List.length_map];exact Nat.le_refl _) (by decide))) ?_;rw[ZbN hxi (by omega)];exact GOES.kA h0 [5,6]
   ·have hm:(itoa cl[x]++ [10])++UB X∉F:=fun hm=>by
     rw[Z16 hf,dif_pos (List.idxOf_lt_length_of_mem hm)]at hg;cases hg
    have hset:=Z8o hkl hlt (hnew hm);rw[if_neg hm]at hfs;have hsn:=Zdy (b:=0) (A:=F) (k:=(itoa cl[x]++ [10])++UB X);rw[Int.zero_add]at hsn;conv=>whnf
    repeat'((first|(refine NEED.mk ⟨KT.ok _,YK KT intV _⟩ ?_;conv=>whnf)|(refine GET.at (row:=Zo (Z0i ks cl.length x)[x]) (YP hnx (by omega)) ?_;conv=>whnf)|refine AU ?_|(refine IW ?_ ?_<;>intro h<;>try(exfalso;omega)))<;>conv=>whnf)
    first|rw[Z3M]|rw[Z2w]
    rw[hml,<-hsn];rw[Z0Q (x:=x) (by omega),hset];refine⟨x+1,by omega,by omega,?_⟩;rw[hfs];conv=>whnf
    refine GOES.trans (GHO.goes (GHO.putk 3 x 0 7 rfl (ZbM hxi (by omega)) rfl rfl (by rw[List.length_map];exact Nat.le_refl _) (by decide))) ?_;rw[ZbN hxi (by omega)];exact GOES.kA h0 [5,6]
 ·have hxe:x=cl.length:=by simp at h1;omega
  subst hxe;have hF:ks.take cl.length=ks:=List.take_of_length_le (by omega);rw[ZdA hkl,hF];have hFn:=Z0P ks cl.length;rw[hF]at hFn;have hml:(numT (Jk 0 (Zx ks) (Zx ks).length)).length=(Zx ks).length:=by show(VV KT intV _).length=_;unfold VV;rw[List.length_map,Z7q hFn (Nat.le_refl _)]
  conv=>whnf
  repeat'((first|(show DRAWN _ _ _ _ _ _ _;first|refine DRAWN.of (id:=20) Z1 mixed Z7p (by kernel_rfl) ?_)|refine ADD.mk (fun _ _=>?_)|refine AD ?_|refine FORK.mk ?_ ?_|refine AU ?_|(refine IW ?_ ?_<;>intro h<;>try(exfalso;omega)))<;>conv=>whnf)
  rw[hml];refine FIN.aA h0 [6] (.bool (decide (ct< ((Zx ks).length:Int)))) [(0,wBx 5 nl cl.length ins.length ng (Zx ks).length),(3, .deep false 1 (inD ins)),(5, .rows 1 ((YS ks).map Zo))] ⟨rfl,rfl,rfl⟩
inductive Settles(ins:List (List Sd)):List Int->Int->List Int->Int->Prop
 |stop {cl:List Int} {ct:Int} (h:¬ct< ((Zx (Yf cl ins)).length:Int)):Settles ins cl ct (YS (Yf cl ins)) (Zx (Yf cl ins)).length
 |go {cl:List Int} {ct:Int} {F:List Int} {c:Int} (h:ct< ((Zx (Yf cl ins)).length:Int)) (k:Settles ins (YS (Yf cl ins)) (Zx (Yf cl ins)).length F c):Settles ins cl ct F c
theorem Settles.det{ins:List (List Sd)}{cl:List Int}{ct:Int}{F F':List Int}{c c':Int}(h:Settles ins cl ct F c)(h':Settles ins cl ct F' c'):F'=F/\c'=c:=by
 induction h with
 |stop hn=>cases h' with
  |stop _=>exact⟨rfl,rfl⟩
  |go hy _=>exact(hn hy).elim
 |go hy _ ih=>cases h' with
  |stop hn=>exact(hn hy).elim
  |go _ k=>exact ih k
theorem WOK.next{cl:List Int}{ins:List (List Sd)}(h:WOK cl ins):WOK (YS (Yf cl ins)) ins/\(YS (Yf cl ins)).length=cl.length/\(Zx (Yf cl ins)).length<=cl.length:=by
 have hl:(YS (Yf cl ins)).length=cl.length:=by rw[VB,WH]
 have hf:=Z3Q (Yf cl ins) cl.length;rw[List.take_of_length_le (by rw[WH];exact Nat.le_refl _)]at hf;have:=h.n;exact⟨⟨by rw[hl];exact h.len,fun c hc=>by have:=Z3S _ c hc;omega,by rw[hl];exact h.sd,h.few,by omega⟩,hl,hf⟩
theorem Settles.ok{ins:List (List Sd)}{cl:List Int}{ct:Int}{F:List Int}{c:Int}(h:Settles ins cl ct F c):WOK cl ins->WOK F ins/\F.length=cl.length/\(∀x∈F,0<=x/\x<c)/\0<=c/\c<=(cl.length:Int):=by
 induction h with
 |stop _=>exact fun hw=>⟨hw.next.1,hw.next.2.1,fun x hx=>Z3S _ x hx,by omega,by have:=hw.next.2.2;omega⟩
 |go _ _ ih=>exact fun hw=>let⟨a,b,c,d,e⟩:=ih hw.next.1;⟨a,b.trans hw.next.2.1,c,d,by rw[hw.next.2.1]at e;exact e⟩
theorem Z2F(cl:List Int)(ins:List (List Sd))(nl ng:Nat)(ct:Int)(h:WOK cl ins)(h0':0<=ct):
 Does prog tab 38 5 [.ptr (.loc 0) 0 0 0] [(0,wBx 2 nl cl.length ins.length ng ct),(2, .rows 1 (cl.map Zo)),(3, .deep false 1 (inD ins))] []
 (fun r O nx=>r= .tup []/\∃F c,Settles ins cl ct F c/\O=[(0,wBx 5 nl cl.length ins.length ng c),(3, .deep false 1 (inD ins)),(5, .rows 1 (F.map Zo))]/\nx=6):=by
 refine Does.enter Z1 call38 func38 rfl 4 rfl rfl [] rfl ?_;intro w0 F η0 h0;conv=>whnf
 repeat'((first|refine AU ?_|(refine IW ?_ ?_<;>intro h<;>try(exfalso;omega)))<;>conv=>whnf)
 refine LOOP.gok Z1 [0] [3] (X:=List Int×Int) (fun x=>WOK x.1 ins/\x.1.length=cl.length/\0<=x.2/\∀F c,Settles ins x.1 x.2 F c->Settles ins cl ct F c) (fun x=>[]) (fun x=>[(0,wBx 5 nl cl.length ins.length ng x.2),(5, .rows 1 (x.1.map Zo))]) 6 (fun x=>cl.length-x.2.toNat) (cl,ct) ⟨h,rfl,h0',fun F c hs=>hs⟩ ?_;conv=>whnf
 refine⟨by exact GOES.kA h0 [2],?_⟩;rintro⟨C,k⟩ ⟨hW,hl,hk0,hS⟩;dsimp only at hW hl hk0 hS⊢;have hsp:=Z7r C ins nl ng k hW;rw[hl]at hsp;conv=>whnf
 repeat'((first|refine AU ?_|(refine IW ?_ ?_<;>intro h<;>try(exfalso;omega)))<;>conv=>whnf)
 refine CALL.aA [0,1,5,3,4] (hsp) ?_;rintro r O nx ⟨rfl,rfl,rfl⟩;conv=>whnf
 obtain⟨hW2,hl2,hf2⟩:=hW.next;refine IF.mk (fun h1=>?_) (fun h1=>?_)
 ·have h1:k< ((Zx (Yf C ins)).length:Int):=by simpa using h1
  conv=>whnf
  refine⟨(YS (Yf C ins),((Zx (Yf C ins)).length:Int)),⟨hW2,by dsimp only;omega,by dsimp only;omega,fun F c hs=>hS F c (.go h1 hs)⟩,by dsimp only;omega,?_⟩;dsimp only;conv=>whnf
  exact GOES.kA h0 [6]
 ·have h1:¬k< ((Zx (Yf C ins)).length:Int):=by simpa using h1
  conv=>whnf
  refine FIN.aA h0 [6] (.tup []) [(0,wBx 5 nl cl.length ins.length ng (Zx (Yf C ins)).length),(3, .deep false 1 (inD ins)),(5, .rows 1 ((YS (Yf C ins)).map Zo))] ⟨rfl,_,_,hS _ _ (.stop h1),rfl,rfl⟩
open Tryz
def ZbO:Plan:=(ZU [(0,1),(1,1),(2,1),(3,1),(4,1),(6,1),(7,1),(8,1),(10,1),(5,2),(9,2),(11,1),(12,2),(13,3),(14,0),(15,1),(16,0)])
def Z8q(l:List LB):List DC:=[.kid 1 (l.map Z3)]
def lbD(out:List (List LB)):List (List DC):=out.map Z8q
theorem Z8r:∀out:List (List LB),ZF (lbD out)=true
 | []=>rfl
 |l::out=>by simp only[lbD,List.map_cons,Z8q,ZF,YL,VD,Zr,Bool.and_self,Bool.true_and];exact Z8r out
instance {out:List (List LB)}:PlD (lbD out):=⟨Z8r out⟩
theorem ZbP{out:List (List LB)}{i:Nat}(h:i<out.length):(lbD out)[i]?=some (Z8q out[i]):=by unfold lbD;rw[List.getElem?_map,List.getElem?_eq_getElem h];rfl
def putC(out:List (List LB))(p:Int×LB):List (List LB):=out.modify p.1.toNat (· ++ [p.2])
theorem ZdB(out:List (List LB))(p:Int×LB):(putC out p).length=out.length:=by unfold putC;rw[List.length_modify]
theorem Z6l:∀(l:List (Int×LB)) (out:List (List LB)),(l.foldl putC out).length=out.length
 | [],_=>rfl
 |p::l,out=>by rw[List.foldl_cons,Z6l l,ZdB]
theorem Z9v{out:List (List LB)}{p:Int×LB}{N:Nat}(h:∀l∈out,l.length<=N):∀l∈putC out p,l.length<=N+1:=by
 intro l hl;unfold putC at hl;obtain⟨i,hi,rfl⟩:=List.mem_iff_getElem.1 hl;rw[List.getElem_modify];have:=h _ (List.getElem_mem (by simpa using hi));split
 ·simp only[List.length_append,List.length_singleton];omega
 ·omega
theorem Z2G:∀{l:List (Int×LB)} {N:Nat} {out:List (List LB)},(∀x∈out,x.length<=N)->∀x∈l.foldl putC out,x.length<=N+l.length
 | [],N,out,h=>h
 |p::l,N,out,h=>fun x hx=>by
  have:=Z2G (l:=l) (Z9v (p:=p) h) x hx;simp only[List.length_cons];omega
def ZdC(F:List Int)(A:List LB)(n:Nat):List (List LB):=(F.zip A).foldl putC (List.replicate n [])
theorem ZbQ{I:List (List LB)}{n:Int}{s:LB}{sv:SV}{rows:List (List SV)}{k i:Nat}(hn:n.toNat<I.length)(hi:i=n.toNat)(hr:rows.take k=(I[n.toNat]++ [s]).map Z3):
 ((setC (lbD I) n.toNat 0 (.v sv)).modify i fun row=>row.set 0 (.kid 1 (rows.take k)))=lbD (putC I (n,s)):=by
 subst hi;show setC _ _ _ _=_
 rw[setC_setC,hr];apply List.ext_getElem?;intro a;rw[ZR];unfold lbD putC;simp only[List.getElem?_map,List.getElem?_modify];by_cases ha:a=n.toNat
 ·subst ha;rw[if_pos rfl,List.getElem?_eq_getElem hn];simp[Z8q]
 ·rw[if_neg ha];cases I[a]?<;>simp[Ne.symm ha]
theorem ZbR(n:Nat):Z8i (List.replicate n [SV.val (.slice none 0 0)]) (lbD (List.replicate n [])):=by
 refine⟨by simp[lbD],fun a row' h=>?_⟩;unfold lbD at h;rw[List.map_replicate]at h;obtain⟨ha,hr⟩:=List.getElem?_eq_some_iff.1 h;rw[List.length_replicate]at ha;rw[List.getElem_replicate]at hr;subst hr;refine⟨_,by rw[List.getElem?_replicate,if_pos ha],?_⟩;exact And.intro (.inr ⟨rfl,1,rfl⟩) trivial
structure ClsOK(l:List Qd):Prop where
 few:l.length<=1048576
 tm:∀q∈l,TmOK 1048576 q.s/\TmOK 1048576 q.p/\TmOK 1048576 q.o/\TmOK 1048576 q.g
theorem ZbS{s:Sd}:∀{L:List Int} {I:List (List Sd)} {l:List Sd} {x:Sd},l∈L.foldl (putN s) I->x∈l->(∃m∈I,x∈m)\/x=s
 | [],I,l,x,h,hx=> .inl ⟨l,h,hx⟩
 |n::L,I,l,x,h,hx=>by
  rcases ZbS (L:=L) h hx with⟨m,hm,hxm⟩|e
  ·unfold putN at hm;obtain⟨i,hi,rfl⟩:=List.mem_iff_getElem.1 hm;rw[List.getElem_modify]at hxm;have hi':i<I.length:=by simpa using hi
   split at hxm
   ·rcases List.mem_append.1 hxm with h1|h1
    ·exact .inl ⟨_,List.getElem_mem hi',h1⟩
    ·exact .inr (List.mem_singleton.1 h1)
   ·exact .inl ⟨_,List.getElem_mem hi',hxm⟩
  ·exact .inr e
theorem Z8s{f:LB->Int}:∀{l:List Qd} {I:List (List Sd)} {m:List Sd} {x:Sd},m∈l.foldl (putS f) I->x∈m->(∃m∈I,x∈m)\/∃q∈l,x=sdM f q
 | [],I,m,x,h,hx=> .inl ⟨m,h,hx⟩
 |q::l,I,m,x,h,hx=>by
  rcases Z8s (l:=l) h hx with⟨m',hm,hxm⟩|⟨q',hq,e⟩
  ·rcases ZbS (L:=ownM f q) hm hxm with h1|h1
   ·exact .inl h1
   ·exact .inr ⟨q,List.mem_cons_self ..,h1⟩
  ·exact .inr ⟨q',List.mem_cons_of_mem _ hq,e⟩
theorem ZgE{A:List LB}{x:LB}(h:x∈A):0<=ixF 0 A x/\ixF 0 A x< (A.length:Int):=by
 unfold ixF;rw[if_pos h];have:=List.idxOf_lt_length_of_mem h;omega
theorem Z4W{A:List LB}{t:Tm}(h:∀x∈Ym t,x∈A): -1<=numM (ixF 0 A) t/\numM (ixF 0 A) t< (A.length:Int):=by
 unfold numM;split
 ·rename_i hk;have:=ZgE (h t.t (by unfold Ym;rw[if_pos hk];exact List.mem_singleton_self _));omega
 ·omega
theorem Zfn{S:List Qd}(h:ClsOK S):WOK (List.replicate (Z0 S).length 0) (ZK S):=by
 have hfew:=h.few;have hAl:(Z0 S).length<=S.length*4:=Nat.le_trans (JA _) (Xz _ Ys _);have hlen:(ZK S).length=(Z0 S).length:=by unfold ZK;rw[YU,List.length_replicate]
 refine⟨by rw[hlen,List.length_replicate],fun c hc=>by rw[List.eq_of_mem_replicate hc];omega,fun m hm s hs=>?_,fun m hm=>?_,by rw[List.length_replicate];omega⟩
 ·unfold ZK at hm;rcases Z8s hm hs with⟨m',hm',hs'⟩|⟨q,hq,rfl⟩
  ·rw[List.eq_of_mem_replicate hm']at hs';cases hs'
  ·rw[List.length_replicate];have hmem:∀x∈YA q,x∈Z0 S:=fun x hx=>(J8 _ _).2 (List.mem_flatMap.2 ⟨q,hq,hx⟩);unfold YA at hmem;simp only[List.mem_append]at hmem;obtain⟨t1,t2,t3,t4⟩:=h.tm q hq;exact⟨t1,t2,t3,t4,Z4W fun x hx=>hmem x (.inl (.inl (.inl hx))),Z4W fun x hx=>hmem x (.inl (.inl (.inr hx))),Z4W fun x hx=>hmem x (.inl (.inr hx)),Z4W fun x hx=>hmem x (.inr hx)⟩
 ·have:=JI (f:=ixF 0 (Z0 S)) (l:=S) (N:=0) (I:=List.replicate (Z0 S).length []) (fun x hx=>by rw[List.eq_of_mem_replicate hx];exact Nat.le_refl _) m hm;omega
theorem Zfo{l:List Qd}(h:ClsOK l):ClsOK (setL ZH l):=
 ⟨Nat.le_trans (JA _) h.few,fun q hq=>h.tm q ((J8 _ _).1 hq)⟩
theorem Z6m(l z:List Qd)(lim:Option Nat)(hl:ClsOK l):
 Does prog tab 12 1 [.sl (.loc 0) 0 16 l.length lim] [] [(0, .rows 16 ((l++z).map Zl))]
 (fun r O nx=> ∃F c,Settles (ZK (setL ZH l)) (List.replicate (Z0 (setL ZH l)).length 0) (if((Z0 (setL ZH l)).length:Int)<1 then((Z0 (setL ZH l)).length:Int)else 1) F c/\
   r= .sl (.loc 1) 0 1 c.toNat none/\O=[(1, .deep false 1 (lbD (ZdC F (Z0 (setL ZH l)) c.toNat)))]/\nx=2):=by
 have hfew:=hl.few;have hts:=Z3D l z lim (by unfold Xf;omega);have hS:=Zfo hl;have hSf:=hS.few;have hSl:(setL ZH l).length<=l.length:=JA _;generalize setL ZH l=S at hts hS hSf hSl⊢;have hW:=Zfn hS;have hlen:(ZK S).length=(Z0 S).length:=by unfold ZK;rw[YU,List.length_replicate]
 have hAl:(Z0 S).length<=S.length*4:=Nat.le_trans (JA _) (Xz _ Ys _);have hst:=Z2F (List.replicate (Z0 S).length 0) (ZK S) (Z0 S).length 1 (if((Z0 S).length:Int)<1 then((Z0 S).length:Int)else 1) hW (by split<;>omega);refine Does.enter Z1 call12 func12 rfl 46 rfl rfl [.tmp 2] rfl ?_;intro w0 F η0 h0;conv=>whnf
 repeat'((first|refine AU ?_|(refine IW ?_ ?_<;>intro h<;>try(exfalso;omega)))<;>conv=>whnf)
 refine CALL.aA [0] (hts) ?_;rintro r O nx ⟨j,hj,rfl,rfl,rfl⟩;have hlk:=Z9t S (List.replicate j Yv) (some S.length) (by unfold Xf;omega) (by omega) (by rw[List.length_append,List.length_replicate];omega);conv=>whnf
 repeat'((first|refine AU ?_|(refine IW ?_ ?_<;>intro h<;>try(exfalso;omega)))<;>conv=>whnf)
 refine CALL.aA [2,1] (hlk) ?_;rintro r O nx ⟨rfl,rfl,rfl⟩;conv=>whnf
 repeat'((first|refine AU ?_|(refine IW ?_ ?_<;>intro h<;>try(exfalso;omega)))<;>conv=>whnf)
 refine CALL.aA [3,4,5,6,7] (hst) ?_;rintro r O nx ⟨rfl,F,c,hSt,rfl,rfl⟩;obtain⟨hWF,hFl,hFr,hc0,hc1⟩:=hSt.ok hW;rw[List.length_replicate]at hFl hc1;conv=>whnf
 have hcn:c=((c.toNat:Nat):Int):=by omega
 generalize c.toNat=n at hcn⊢;subst hcn;obtain⟨A,hA⟩:∃A,A=Z0 S:=⟨_,rfl⟩;rw[<-hA]at hFl hc1 hAl hlen⊢;repeat'((first|(refine NEED.mk (Z0h 24 rfl (by omega) (by omega) (by omega) (by omega)) ?_;conv=>whnf)|refine AU ?_|(refine IW ?_ ?_<;>intro h<;>try(exfalso;omega)))<;>conv=>whnf)
 refine GHO.loop (GHO.deepen 9 (lbD (List.replicate n [])) rfl (ZbR _)) ?_;rw[List.length_replicate];have hfn:∀i,((((F.zip A).take i).foldl putC (List.replicate n [])).length=n):=fun i=>by rw[Z6l,List.length_replicate]
 have hfb:∀i,i<=A.length->∀x∈((F.zip A).take i).foldl putC (List.replicate n []),x.length<=A.length:=fun i hi x hx=>by
  have:=Z2G (l:=(F.zip A).take i) (N:=0) (out:=List.replicate n []) (fun x hx=>by rw[List.eq_of_mem_replicate hx];exact Nat.le_refl _) x hx;rw[List.length_take]at this;omega
 have hzl:(F.zip A).length=A.length:=by rw[List.length_zip];omega
 refine LOOP.gok Z1 [3,4,21,22] [] (X:=Nat) (fun i=>i<=A.length) (fun i=>[(23, .int .i64 (i:Int))]) (fun i=>[(9, .deep false 1 (lbD (((F.zip A).take i).foldl putC (List.replicate n [])))),(3, .box [.sl (.loc 4) 0 1 A.length none, .sl (.loc 8) 0 1 A.length none, .sl (.loc 6) 0 1 (ZK S).length none, .sl (.loc 7) 0 1 1 none, .int .i64 n]),(4, .rows 1 (A.map Z3)),(8, .rows 1 (F.map Zo))]) 10 (fun i=>A.length-i) 0 (by omega) ?_;conv=>whnf
 refine⟨by exact GOES.cA h0,?_⟩;intro i hi;conv=>whnf
 refine IF.mk (fun h1=>?_) (fun h1=>?_)
 ·have hlt:i<A.length:=by simp at h1;omega
  have hto:=Jp putC (List.replicate n []) (F.zip A) (show i< (F.zip A).length by omega);rw[List.getElem_zip]at hto;have hIl:=hfn i;have hIb:=hfb i hi;generalize((F.zip A).take i).foldl putC (List.replicate n [])=I at hto hIl hIb⊢;have hFi:=hFr _ (List.getElem_mem (show i<F.length by omega));have hgF:=Jj (l:=F) (i:=i) (by omega);generalize F[i]'(by omega)=f at hto hFi hgF;have hfl:f.toNat<I.length:=by omega
  have hIf:=hIb _ (List.getElem_mem hfl);conv=>whnf
  repeat'((first|(refine GET.at (row:=Zo f) (by rw[Int.toNat_natCast,Nat.zero_add];exact hgF) ?_;conv=>whnf)|refine AU ?_|(refine IW ?_ ?_<;>intro h<;>try(exfalso;omega)))<;>conv=>whnf)
  refine GHO.drawn (GHO.take 9 f.toNat 0 rfl (ZbP hfl) rfl) ?_;repeat'((first|(show DRAWN _ _ _ _ _ _ _;first|refine DRAWN.of (id:=7) Z1 mixed ZbO (by kernel_rfl) ?_)|refine ADD.mk (fun _ _=>?_)|refine AD ?_|refine FORK.mk ?_ ?_|(refine GET.at (by rw[Nat.zero_add];exact Z6c (ZbP hfl)) ?_;conv=>whnf)|(refine GET.at (row:=Z3 A[i]) (YP hlt (by omega)) ?_;conv=>whnf)|(refine FINDD.at (by rw[Nat.zero_add];exact Z6e (ZbP hfl)) ?_;conv=>whnf)|(refine NEED.mk (Yc 16 rfl rfl rfl (Nat.le_refl _) (by rw[List.length_map];omega)) ?_;conv=>whnf)|refine AU ?_|(refine IW ?_ ?_<;>intro h<;>try(exfalso;omega)))<;>conv=>whnf)
  all_goals rw[ZbQ hfl (Nat.zero_add _) (s:=A[i]) (by rw[List.take_of_length_le (by simp),List.take_of_length_le (by simp)];simp[Z3])]
  all_goals refine⟨i+1,by omega,by omega,?_⟩
  all_goals rw[hto]
  all_goals (conv=>whnf)
  all_goals exact GOES.cA h0
 ·have hie:i=A.length:=by simp at h1;omega
  subst hie;rw[List.take_of_length_le (by omega)];conv=>whnf
  repeat'((first|refine AU ?_|(refine IW ?_ ?_<;>intro h<;>try(exfalso;omega)))<;>conv=>whnf)
  refine FIN.aA h0 [9] (.sl (.loc 1) 0 1 n none) [(1, .deep false 1 (lbD ((F.zip A).foldl putC (List.replicate n []))))] ⟨F,n,by rw[hA];exact hSt,rfl,rfl,rfl⟩
end Go.Proofs.YtbfbokdccdagkaaGreatDoor
namespace Go.Proofs.YtbfbokdccdagkaaGreatDoor
open Go.Sx Go.Our
open Tryz
def Ut:Plan:=(ZU [(0,1),(1,1),(2,1),(3,1),(4,1),(5,2),(6,2),(7,3),(8,1),(9,1)])
def Z9w:Plan:=(ZU [(0,1),(1,1),(2,1),(3,1),(8,1),(9,1),(10,1),(12,1),(13,1),(14,1),(16,1),(4,2),(5,1),(6,1),(7,2),(11,2),(15,2),(17,1),(18,2),(19,1),(20,1),(21,2),(22,1),(23,1),(24,0)])
def nsM(s:Sd):List Int:=[s.a,s.b,s.c,s.d]
def WI(ps:List Int)(s:Sd):Bool:=(nsM s).all fun n=>decide (n<0)||decide (0<=ps.getD n.toNat 0)
def imgT(labs:List LB)(half:Nat)(ps:List Int)(t:Tm)(n:Int):Tm:=if n<0 then t else{t with t:=labs.getD ((half:Int)+ps.getD n.toNat 0).toNat []}
def imgQ(labs:List LB)(half:Nat)(ps:List Int)(s:Sd):Qd:=⟨imgT labs half ps s.q.s s.a,imgT labs half ps s.q.p s.b,imgT labs half ps s.q.o s.c,imgT labs half ps s.q.g s.d⟩
def Z37(labs:List LB)(half:Nat)(ps:List Int)(bq:List Qd)(l:List Sd):Bool:=l.all fun s=>!WI ps s||decide (imgQ labs half ps s∈bq)
def sBx(half:Nat)(left:Int):Hp:= .box [.ptr (.loc 1) 0 0 0, .int .i64 half, .mp (.loc 2), .sl (.loc 3) 0 1 half none, .sl (.loc 4) 0 1 half none, .int .i64 left]
def wFx(nl nc ni ng:Nat)(count:Int):Hp:= .box [.sl (.loc 5) 0 1 nl none, .sl (.loc 6) 0 1 nc none, .sl (.loc 7) 0 1 ni none, .sl (.loc 8) 0 1 ng none, .int .i64 count]
def WJ(bq:List Qd):List (List SV):=VV KQ intV (bq.map fun q=>(q,(1:Int)))
instance {bq:List Qd}:Pl (WJ bq):=⟨Z6Y KQ intV (fun _=>rfl) _⟩
def Z38(s:Sd):List Tm:=[s.q.s,s.q.p,s.q.o,s.q.g]
def imgL(labs:List LB)(half:Nat)(ps:List Int)(s:Sd):List Tm:=List.zipWith (imgT labs half ps) (Z38 s) (nsM s)
def imgK(labs:List LB)(half:Nat)(ps:List Int)(s:Sd)(k:Nat):List Tm:=(imgL labs half ps s).take k++(Z38 s).drop k
theorem ZbX(labs:List LB)(half:Nat)(ps:List Int)(s:Sd):imgK labs half ps s 0=Z38 s:=rfl
theorem Z6n{labs:List LB}{half:Nat}{ps:List Int}{s:Sd}{k:Nat}(hk:k<4):imgK labs half ps s (k+1)=(imgK labs half ps s k).set k (imgT labs half ps ((Z38 s)[k]'hk) ((nsM s)[k]'hk)):=by
 match k,hk with
 |0,_=>rfl
 |1,_=>rfl
 |2,_=>rfl
 |3,_=>rfl
theorem Z8u{labs:List LB}{half:Nat}{ps:List Int}{s:Sd}{k:Nat}(hk:k<4):(imgK labs half ps s k)[k]?=some ((Z38 s)[k]'hk):=by
 match k,hk with
 |0,_=>rfl
 |1,_=>rfl
 |2,_=>rfl
 |3,_=>rfl
theorem ZdD{labs:List LB}{half:Nat}{ps:List Int}{s:Sd}{k:Nat}(hk:k<4)(hn:(nsM s)[k]'hk<0):imgK labs half ps s (k+1)=imgK labs half ps s k:=by
 rw[Z6n hk];have hg:=Z8u (labs:=labs) (half:=half) (ps:=ps) (s:=s) hk;unfold imgT;rw[if_pos hn];obtain⟨h1,h2⟩:=List.getElem?_eq_some_iff.1 hg;rw[<-h2];exact List.set_getElem_self h1
theorem Z6o{labs:List LB}{half:Nat}{ps:List Int}{bq:List Qd}{l:List Sd}{j:Nat}(h:j<l.length):Z37 labs half ps bq (l.take (j+1))=(Z37 labs half ps bq (l.take j)&& (!WI ps l[j]||decide (imgQ labs half ps l[j]∈bq))):=by
 unfold Z37;rw[List.take_succ_eq_append_getElem h,List.all_append];simp
theorem Z8v{ins:List (List Sd)}{i k:Nat}{sv:SV}{l:List Sd}(h:i<ins.length)(hk:k=i)(hl:ins[i]=l):setC (setC (inD ins) k 0 (.v sv)) i 0 (.kid 20 ((l.map VW).take l.length))=inD ins:=by
 subst hl;exact Zfp (es:=20) (f:=VW) h hk rfl
theorem Zfq{es:Nat}{rs:List (List SV)}(h:Det (.agg rs.flatten)):Det (.arr es rs):=by
 unfold Det at h⊢;intro η u u' h1 h2;exact h η u u' (Den.flKey h1) (Den.flKey h2)
theorem ZbY{a:Qd}:∀{l:List (Qd×Int)},ixA a l=none->a∉l.map Prod.fst
 | [],_,h=>by simp at h
 |(b,u)::l,hn,h=>by
  unfold ixA at hn;split at hn
  ·cases hn
  ·rename_i hb;have h2:=Option.map_eq_none_iff.1 hn;rcases List.mem_cons.1 h with e|e
   ·exact hb e
   ·exact ZbY h2 e
theorem ZgG{ss:List (List DC)}{i k:Nat}{d:DC}(hk:k=i):ss.modify k (fun row=>row.set 0 d)=setC ss i 0 d:=by subst hk;rfl
theorem ZbZ(labs:List LB)(half:Nat)(ps:List Int)(bq:List Qd)(ins:List (List Sd))(nc ng x:Nat)(left count:Int)(hx:x<ins.length)(hlab:labs.length=2*half)(hps:ps.length=half)(hn:labs.length<=67108864)(hfew:(ins[x]'hx).length<=67108864)(hrg:∀s∈(ins[x]'hx),∀n∈nsM s,-1<=n/\n< (half:Int))(hpr:∀y∈ps,-1<=y/\y< (half:Int)):
 Does prog tab 80 9 [.ptr (.loc 0) 0 0 0, .int .i64 (x:Int)] [(7, .deep false 1 (inD ins))] [(0,sBx half left),(1,wFx labs.length nc ins.length ng count),(2, .mp (WJ bq)),(3, .rows 1 (ps.map Zo)),(5, .rows 1 (labs.map Z3))]
 (fun r O nx=>r= .bool (Z37 labs half ps bq ins[x])/\O=[(7, .deep false 1 (inD ins))]/\nx=9):=by
 refine Does.enter Z1 call80 func80 rfl 80 rfl rfl [.tmp 4] rfl ?_;intro w0 F η0 h0;conv=>whnf
 repeat'((first|(refine FINDD.at (Z8p hx (by omega)) ?_;conv=>whnf)|refine AU ?_|(refine IW ?_ ?_<;>intro h<;>try(exfalso;omega)))<;>conv=>whnf)
 rw[ZgG (i:=x) (by omega),List.length_map];generalize hl:ins[x]=l at hfew hrg⊢;refine LOOP.gok Z1 [0,20,21] [7,9] (X:=Nat) (fun j=>j<=l.length/\Z37 labs half ps bq (l.take j)=true) (fun j=>[(22, .int .i64 (j:Int))]) (fun j=>[]) 10 (fun j=>l.length-j) 0 ⟨by omega,rfl⟩ ?_;conv=>whnf
 refine⟨by exact GOES.cA h0,?_⟩;rintro j ⟨hj,hfj⟩;conv=>whnf
 repeat'((first|refine AU ?_|(refine IW ?_ ?_<;>intro h<;>try(exfalso;omega)))<;>conv=>whnf)
 ·have hjl:j<l.length:=by omega
  have hgj:=ZcY (l:=l) hjl;generalize hs:l[j]=s at hgj;repeat'((first|(refine GET.at (row:=VW s) (by rw[Int.toNat_natCast,Nat.zero_add];exact hgj) ?_;conv=>whnf)|refine AU ?_|(refine IW ?_ ?_<;>intro h<;>try(exfalso;omega)))<;>conv=>whnf)
  refine LOOP.gok Z1 [0,7,20,21,22,29] [7,9] (X:=Nat) (fun k=>k<=4/\∀n∈(nsM s).take k,n<0\/0<=ps.getD n.toNat 0) (fun k=>[(30, .int .i64 (k:Int)),(8, .bool true)]) (fun k=>[(11, .rows 4 ((imgK labs half ps s k).map Z2i))]) 12 (fun k=>4-k) 0 ⟨by omega,fun n h=>by simp at h⟩ ?_;conv=>whnf
  refine⟨by rw[ZbX];exact GOES.cA h0,?_⟩;rintro k ⟨hk,hw⟩;conv=>whnf
  repeat'((first|refine AU ?_|(refine IW ?_ ?_<;>intro h<;>try(exfalso;omega)))<;>conv=>whnf)
  ·have hk4:k< (nsM s).length:=by show k<4;omega
   have hgn:[[SV.int .i64 s.a],[SV.int .i64 s.b],[SV.int .i64 s.c],[SV.int .i64 s.d]][(k:Int).toNat]?=some (Zo (nsM s)[k]):=by
    rw[Int.toNat_natCast];show((nsM s).map Zo)[k]?=_
    rw[List.getElem?_map,List.getElem?_eq_getElem hk4];rfl
   have hnr:=hrg s (by rw[<-hs];exact List.getElem_mem hjl) _ (List.getElem_mem hk4);generalize hnk:(nsM s)[k]=n at hgn hnr
   have wsnoc:(n<0\/0<=ps.getD n.toNat 0)->∀m∈(nsM s).take (k+1),m<0\/0<=ps.getD m.toNat 0:=fun hn' m hm=>by
    rw[List.take_succ_eq_append_getElem hk4,hnk]at hm;rcases List.mem_append.1 hm with h1|h1
    ·exact hw m h1
    ·rw[List.mem_singleton.1 h1];exact hn'
   refine GET.at hgn ?_;conv=>whnf
   repeat'((first|refine AU ?_|(refine IW ?_ ?_<;>intro h<;>try(exfalso;omega)))<;>conv=>whnf)
   ·refine⟨k+1,⟨by omega,wsnoc (.inl h)⟩,by omega,?_⟩;rw[ZdD hk4 (by rw[hnk];exact h)];conv=>whnf
    exact GOES.cA h0
   ·have hn0:n.toNat<ps.length:=by omega
    have hgp:=YP (f:=Zo) hn0 rfl;have hpn:=hpr _ (List.getElem_mem hn0);have hpd:ps.getD n.toNat 0=ps[n.toNat]:=by rw[List.getD_eq_getElem?_getD,List.getElem?_eq_getElem hn0];rfl
    generalize ps[n.toNat]'hn0=y at hgp hpn hpd;repeat'((first|(refine GET.at (row:=Zo y) (by rw[Nat.zero_add];exact hgp) ?_;conv=>whnf)|refine AU ?_|(refine IW ?_ ?_<;>intro h<;>try(exfalso;omega)))<;>conv=>whnf)
    ·have hfalse:WI ps s=false:=by
      unfold WI;rw[List.all_eq_false];refine⟨n,by rw[<-hnk];exact List.getElem_mem hk4,?_⟩;rw[hpd];simp;omega
     repeat'((first|(show DRAWN _ _ _ _ _ _ _;first|refine DRAWN.of (id:=13) Z1 mixed Ut (by kernel_rfl) ?_)|refine ADD.mk (fun _ _=>?_)|refine AD ?_|refine FORK.mk ?_ ?_|refine AU ?_|(refine IW ?_ ?_<;>intro h<;>try(exfalso;omega)))<;>conv=>whnf)
     refine⟨j+1,⟨by omega,by rw[Z6o hjl,hfj,hs];simp[hfalse]⟩,by omega,?_⟩;conv=>whnf
     exact GOES.cA h0
    ·have hlb:((half:Int)+y).toNat<labs.length:=by omega
     have hgl:=YP (f:=Z3) hlb rfl;have hwy:IntKind.i64.wrap ((half:Int)+y)=(half:Int)+y:=Z6 (by omega) (by omega);have hgt:((imgK labs half ps s k).map Z2i)[k]?=some (Z2i ((Z38 s)[k]'hk4)):=by rw[List.getElem?_map,Z8u hk4];rfl
     repeat'((first|(show DRAWN _ _ _ _ _ _ _;first|refine DRAWN.of (id:=11) Z1 mixed Z9w (by kernel_rfl) ?_)|refine ADD.mk (fun _ _=>?_)|refine AD ?_|refine FORK.mk ?_ ?_|(refine GET.at (row:=Z3 (labs[((half:Int)+y).toNat]'hlb)) (by rw[Nat.zero_add,hwy];exact hgl) ?_;conv=>whnf)|(refine GET.at (row:=Zo y) (by rw[Nat.zero_add];exact hgp) ?_;conv=>whnf)|(refine GET.at (row:=Z2i ((Z38 s)[k]'hk4)) (by rw[Int.toNat_natCast];exact hgt) ?_;conv=>whnf)|refine AU ?_|(refine IW ?_ ?_<;>intro h<;>try(exfalso;omega)))<;>conv=>whnf)
     have hst:((imgK labs half ps s k).map Z2i).set (k:Int).toNat [.int .i64 ((Z38 s)[k]'hk4).k, .str (labs[((half:Int)+y).toNat]'hlb), .str ((Z38 s)[k]'hk4).y, .str ((Z38 s)[k]'hk4).l]=(imgK labs half ps s (k+1)).map Z2i:=by
      rw[Z6n hk4,List.map_set,Int.toNat_natCast];congr 1;unfold imgT;rw[if_neg (by rw[hnk];omega),hnk,hpd,List.getD_eq_getElem?_getD,List.getElem?_eq_getElem hlb];rfl
     rw[hst];refine⟨k+1,⟨by omega,wsnoc (.inr (by rw[hpd];exact h))⟩,by omega,?_⟩;conv=>whnf
     exact GOES.cA h0
  ·have hk4:k=4:=by omega
   subst hk4
   have hwt:WI ps s=true:=by
    unfold WI;rw[List.all_eq_true];intro n hn;rcases hw n hn with h1|h1
    ·simp[h1]
    ·simp only[Bool.or_eq_true,decide_eq_true_eq];exact .inr h1
   have hky:SV.agg ((imgK labs half ps s 4).map Z2i).flatten=KQ.enc (imgQ labs half ps s):=rfl;repeat'((first|(show DRAWN _ _ _ _ _ _ _;first|refine DRAWN.of (id:=13) Z1 mixed Ut (by kernel_rfl) ?_)|refine ADD.mk (fun _ _=>?_)|refine AD ?_|refine FORK.mk ?_ ?_|(refine NEED.mk ⟨rfl,rfl,rfl⟩ ?_;conv=>whnf)|(refine NEED.mk (Zfq (Det.of rfl)) ?_;conv=>whnf)|(refine NEED.mk ⟨KQ.ok (imgQ labs half ps s),YK KQ intV _⟩ ?_;conv=>whnf)|refine AU ?_|(refine IW ?_ ?_<;>intro h<;>try(exfalso;omega)))<;>conv=>whnf)
   refine FIND.mk (fun i v hf=>?_) (fun hf=>?_)
   ·obtain⟨⟨m,z⟩,hm,he⟩:=Option.map_eq_some_iff.1 ((Z01 KQ intV (imgQ labs half ps s) (bq.map fun q=>(q,(1:Int))) 0).symm.trans hf);obtain⟨q,hq,e⟩:=List.mem_map.1 (List.mem_of_getElem? (Z70 hm));injection e with e1 e2;subst e2;have hin:imgQ labs half ps s∈bq:=e1▸hq;cases he
    clear hf;conv=>whnf
    repeat'((first|(show DRAWN _ _ _ _ _ _ _;first|refine DRAWN.of (id:=13) Z1 mixed Ut (by kernel_rfl) ?_)|refine ADD.mk (fun _ _=>?_)|refine AD ?_|refine FORK.mk ?_ ?_|refine AU ?_|(refine IW ?_ ?_<;>intro h<;>try(exfalso;omega)))<;>conv=>whnf)
    refine⟨j+1,⟨by omega,by rw[Z6o hjl,hfj,hs];simp[hin]⟩,by omega,?_⟩;conv=>whnf
    exact GOES.cA h0
   ·have hm:=Option.map_eq_none_iff.1 ((Z01 KQ intV (imgQ labs half ps s) (bq.map fun q=>(q,(1:Int))) 0).symm.trans hf);have hin:¬imgQ labs half ps s∈bq:=fun h=>ZbY hm (List.mem_map.2 ⟨_,List.mem_map_of_mem h,rfl⟩)
    have hno:Z37 labs half ps bq l=false:=by
     unfold Z37;rw[List.all_eq_false];exact⟨s,by rw[<-hs];exact List.getElem_mem hjl,by simp[hwt,hin]⟩
    clear hf;conv=>whnf
    repeat'((first|(show DRAWN _ _ _ _ _ _ _;first|refine DRAWN.of (id:=13) Z1 mixed Ut (by kernel_rfl) ?_)|refine ADD.mk (fun _ _=>?_)|refine AD ?_|refine FORK.mk ?_ ?_|refine AU ?_|(refine IW ?_ ?_<;>intro h<;>try(exfalso;omega)))<;>conv=>whnf)
    rw[hno];refine GHO.fin (GHO.putk 7 x 0 9 rfl (ZbW (es:=20) (f:=VW) hx rfl) rfl rfl (by rw[List.length_map];exact Nat.le_refl _) (by decide)) ?_;rw[Z8v hx rfl hl];exact FIN.aA h0 [] (.bool false) [(7, .deep false 1 (inD ins))] ⟨rfl,rfl,rfl⟩
 ·have hje:j=l.length:=by omega
  subst hje;rw[List.take_length]at hfj;rw[hfj];refine GHO.fin (GHO.putk 7 x 0 9 rfl (ZbW (es:=20) (f:=VW) hx rfl) rfl rfl (by rw[List.length_map];exact Nat.le_refl _) (by decide)) ?_;rw[Z8v hx rfl hl];exact FIN.aA h0 [] (.bool true) [(7, .deep false 1 (inD ins))] ⟨rfl,rfl,rfl⟩
open Tryz
def Z9x:Plan:=(ZU [(0,1),(1,1),(2,1),(4,1),(3,2),(5,1),(6,2),(7,1),(8,1),(9,1),(10,1),(11,1),(16,1),(19,1),(20,1),(21,1),(26,1),(27,1),(28,1),(30,1),(12,2),(13,1),(14,1),(15,2),(17,1),(18,2),(22,2),(23,1),(24,1),(25,2),(29,2),(31,1),(32,1),(33,2),(34,1),(35,1)])
def Z9y:Plan:=(ZU [(0,1),(1,1),(2,1),(4,1),(5,1),(6,1),(7,1),(9,1),(10,1),(3,2),(8,2),(11,1),(12,0),(13,1),(14,0)])
def Z3T:Plan:=(ZU [(0,1),(1,1),(2,1),(4,1),(5,1),(6,1),(7,1),(9,1),(3,2),(8,2),(10,1),(11,0),(12,1),(13,0)])
def psM(half:Nat)(ys:List Nat):List Int:=ys.map (fun(y:Nat)=>(y:Int))++List.replicate (half-ys.length) (-1)
def tkM(half:Nat)(ys:List Nat):List Int:=(List.range half).map fun y=>if y∈ys then 1 else 0
def seO(half:Nat)(ys:List Nat)(left:Nat)(ins:List (List Sd)):Hps:=[(0,sBx half left),(3, .rows 1 ((psM half ys).map Zo)),(4, .rows 1 ((tkM half ys).map Zo)),(7, .deep false 1 (inD ins))]
def okM(cl:List Int)(half:Nat)(x y:Nat):Bool:=decide (cl.getD x 0=cl.getD (half+y) 0)
def fitM(labs:List LB)(half:Nat)(bq:List Qd)(ins:List (List Sd))(zs:List Nat):Bool:=Z37 labs half (psM half zs) bq (ins.getD (zs.length-1) [])
theorem Zhn{half y:Nat}(ok:Nat->Bool)(fits:List Nat->Bool)(next:List Nat->Nat->Out)(ys:List Nat)(lf:Nat)(h:y<half):goY ok fits next ys ((List.range half).drop y) lf=if y∈ys\/ok y=false then goY ok fits next ys ((List.range half).drop (y+1)) lf
 else match lf with
  |0=> .over
  |lf+1=>if fits (ys++ [y])=true then(match next (ys++ [y]) lf with
    | .none left'=>goY ok fits next ys ((List.range half).drop (y+1)) left'
    |o=>o)else goY ok fits next ys ((List.range half).drop (y+1)) lf:=by
 rw[List.drop_eq_getElem_cons (by simpa using h),List.getElem_range];rfl
theorem Zc1{half y:Nat}{ys:List Nat}(h:ys.length<half):(psM half ys).set ys.length (y:Int)=psM half (ys++ [y]):=by
 unfold psM;rw[List.set_append_right _ _ (by simp),List.length_map,Nat.sub_self,show half-ys.length=(half-(ys++ [y]).length)+1 by simp;omega,List.replicate_succ,List.set_cons_zero,List.map_append,List.append_assoc]
 rfl
theorem Zfr{half y:Nat}{ys:List Nat}(h:ys.length<half):(psM half (ys++ [y])).set ys.length (-1)=psM half ys:=by
 rw[<-Zc1 h,List.set_set];unfold psM;rw[List.set_append_right _ _ (by simp),List.length_map,Nat.sub_self,show half-ys.length=(half-ys.length-1)+1 by omega,List.replicate_succ,List.set_cons_zero]
theorem Zes{half y:Nat}{ys zs:List Nat}{v:Int}(hv:v=if y∈zs then 1 else 0)(h:∀z,z≠y->(z∈zs<->z∈ys)):(tkM half ys).set y v=tkM half zs:=by
 unfold tkM;apply List.ext_getElem?;intro i;rw[List.getElem?_set,List.length_map,List.length_range,List.getElem?_map,List.getElem?_map];by_cases e:y=i
 ·subst e;by_cases hy:y<half
  ·rw[if_pos rfl,if_pos hy,List.getElem?_range hy,hv];rfl
  ·rw[if_pos rfl,if_neg hy,List.getElem?_eq_none (by simp;omega)];rfl
 ·rw[if_neg e];cases hi:(List.range half)[i]? with
  |none=>rfl
  |some j=>
   have hj:j=i:=by
    have:=List.getElem?_eq_some_iff.1 hi;obtain⟨_,h2⟩:=this;rw[List.getElem_range]at h2;exact h2.symm
   subst hj;simp only[Option.map_some];have:=h j (Ne.symm e);by_cases hm:j∈ys
   ·rw[if_pos hm,if_pos (this.2 hm)]
   ·rw[if_neg hm,if_neg fun h2=>hm (this.1 h2)]
theorem ZgH{half:Nat}{ys:List Nat}(h:∀y∈ys,y<half):∀p∈psM half ys,-1<=p/\p< (half:Int):=by
 intro p hp;unfold psM at hp;rcases List.mem_append.1 hp with h1|h1
 ·obtain⟨y,hy,rfl⟩:=List.mem_map.1 h1;have:=h y hy;omega
 ·rw[List.eq_of_mem_replicate h1];omega
theorem Zfs(half:Nat)(ys:List Nat)(left:Nat)(ins:List (List Sd)):renO (Zk [0,1,2,3,4,5,6,7,8] 9) (seO half ys left ins)=seO half ys left ins:=by
 show [(0,_),(3,renH _ (.rows 1 _)),(4,renH _ (.rows 1 _)),(7,renH _ (.deep false 1 _))]=_
 rw[renR,renR,renDp]
 rfl
theorem Z6p(labs:List LB)(half:Nat)(cl:List Int)(bq:List Qd)(ins:List (List Sd))(ng:Nat)(count:Int)(hlab:labs.length=2*half)(hcl:cl.length=2*half)(hins:ins.length=2*half)(hn:labs.length<=67108864)(hI:∀x,x<half->∀h:x<ins.length,ins[x].length<=67108864/\∀s∈ins[x],∀n∈nsM s,-1<=n/\n< (half:Int)):∀(d:Nat) (ys:List Nat) (left:Nat),ys.length+d=half->left<=65536->Ps half (okM cl half) ys->
 DoesE prog tab 55 9 [.ptr (.loc 0) 0 0 0, .int .i64 (ys.length:Int)] (seO half ys left ins) [(1,wFx labs.length cl.length ins.length ng count),(2, .mp (WJ bq)),(5, .rows 1 (labs.map Z3)),(6, .rows 1 (cl.map Zo))]
 (fun r O nx=>nx=9/\match Xi half (okM cl half) (fitM labs half bq ins) d ys left with
   | .found zs m=>r= .bool true/\O=seO half zs m ins
   | .none m=>r= .bool false/\O=seO half ys m ins
   | .over=>False)
 (fun r O nx=>nx=9/\r= .ifc 32 (.int .i64 4)/\O=[]/\Xi half (okM cl half) (fitM labs half bq ins) d ys left= .over):=by
 intro d
 induction d with
 |zero=>
  intro ys left hd hl hp;refine DoesE.enter Z1 call55 func55 rfl 103 rfl rfl [.tmp 4] rfl ?_;intro w0 F η0 h0;conv=>whnf
  repeat'((first|refine AU ?_|(refine IW ?_ ?_<;>intro h<;>try(exfalso;omega)))<;>conv=>whnf)
  all_goals first|exact FIN.aA h0 [] (.bool true) (seO half ys left ins) ⟨rfl,rfl,rfl⟩|(exfalso;omega)
 |succ d ih=>
  intro ys left hd hl hp;obtain⟨R,hR⟩:∃R,R=Xi half (okM cl half) (fitM labs half bq ins) (d+1) ys left:=⟨_,rfl⟩;rw[<-hR];refine DoesE.enter Z1 call55 func55 rfl 103 rfl rfl [.tmp 4] rfl ?_;intro w0 F η0 h0;conv=>whnf
  repeat'((first|refine AU ?_|(refine IW ?_ ?_<;>intro h<;>try(exfalso;omega)))<;>conv=>whnf)
  refine LOOP.gok Z1 [0,1,15] [] (X:=Nat×Nat) (fun x=>x.1<=half/\x.2<=left/\goY (okM cl half ys.length) (fitM labs half bq ins) (Xi half (okM cl half) (fitM labs half bq ins) d) ys ((List.range half).drop x.1) x.2=R) (fun x=>[(16, .int .i64 (x.1:Int))]) (fun x=>seO half ys x.2 ins) 9 (fun x=>half-x.1) (0,left) ⟨by simp,Nat.le_refl _,by rw[hR];rfl⟩ ?_;conv=>whnf
  refine⟨by exact GOES.cA h0,?_⟩;rintro⟨y,lf⟩ ⟨hy,hlf,hg⟩;dsimp only at hy hlf hg⊢;conv=>whnf
  repeat'((first|refine AU ?_|(refine IW ?_ ?_<;>intro h<;>try(exfalso;omega)))<;>conv=>whnf)
  ·have hyh:y<half:=by omega
   have hgt:((tkM half ys).map Zo)[y]?=some (Zo (if y∈ys then 1 else 0)):=by unfold tkM;rw[List.getElem?_map,List.getElem?_map,List.getElem?_range hyh];rfl
   have hx:ys.length<cl.length:=by omega
   have hhy:half+y<cl.length:=by omega
   have hgc:=YP (f:=Zo) hx rfl;have hgd:=YP (f:=Zo) hhy rfl;have hwy:IntKind.i64.wrap ((half:Int)+(y:Int))=((half+y:Nat):Int):=by rw[Z6 (by omega) (by omega)];omega
   have hga:=Zhn (okM cl half ys.length) (fitM labs half bq ins) (Xi half (okM cl half) (fitM labs half bq ins) d) ys lf hyh;rw[hg]at hga;have hok:okM cl half ys.length y=decide (cl[ys.length]=cl[half+y]):=by unfold okM;rw[List.getD_eq_getElem?_getD,List.getD_eq_getElem?_getD,List.getElem?_eq_getElem hx,List.getElem?_eq_getElem hhy];rfl
   repeat'((first|(show DRAWN _ _ _ _ _ _ _;first|refine DRAWN.of (id:=6) Z1 mixed Z9x (by kernel_rfl) ?_)|refine ADD.mk (fun _ _=>?_)|refine AD ?_|refine FORK.mk ?_ ?_|(refine GET.at (row:=Zo (if y∈ys then 1 else 0)) (by rw[Nat.zero_add,Int.toNat_natCast];exact hgt) ?_;conv=>whnf)|(refine GET.at (row:=Zo cl[ys.length]) (by rw[Nat.zero_add,Int.toNat_natCast];exact hgc) ?_;conv=>whnf)|(refine GET.at (row:=Zo cl[half+y]) (by rw[hwy,Nat.zero_add,Int.toNat_natCast];exact hgd) ?_;conv=>whnf)|refine AU ?_|(refine IW ?_ ?_<;>intro h<;>try(exfalso;omega)))<;>conv=>whnf)
   ·have hm:y∈ys:=Decidable.byContradiction fun hm=>by rw[if_neg hm]at h;omega
    refine⟨(y+1,lf),⟨by dsimp only;omega,hlf,?_⟩,by dsimp only;omega,?_⟩
    ·rw[hga,if_pos (.inl hm)]
    dsimp only;conv=>whnf
    exact GOES.cA h0
   ·refine⟨(y+1,lf),⟨by dsimp only;omega,hlf,?_⟩,by dsimp only;omega,?_⟩
    ·rw[hga,if_pos (.inr (hok.trans (decide_eq_false h)))]
    dsimp only;conv=>whnf
    exact GOES.cA h0
   ·have hlz:lf=0:=by omega
    have hny:y∉ys:=fun hm=>by have h7:= ‹(if y∈ys then(1:Int)else 0)<=0›;rw[if_pos hm]at h7;omega
    subst hlz;rw[if_neg (by rw[hok,decide_eq_true ‹cl[ys.length]=cl[half+y]›];simp[hny])]at hga;exact⟨⟨rfl,trivial⟩,FIN.aA h0 [] (.ifc 32 (.int .i64 4)) [] ⟨rfl,rfl,rfl,hga⟩⟩
   ·have hny:y∉ys:=fun hm=>by have h7:= ‹(if y∈ys then(1:Int)else 0)<=0›;rw[if_pos hm]at h7;omega
    obtain⟨m,rfl⟩:∃m,lf=m+1:=⟨lf-1,by omega⟩;have hok1:okM cl half ys.length y=true:=by rw[hok];exact decide_eq_true ‹cl[ys.length]=cl[half+y]›
    rw[if_neg (by rw[hok1];simp[hny])]at hga;dsimp only at hga;have hwm:IntKind.i64.wrap (((m+1:Nat):Int)-1)=(m:Int):=by rw[Z6 (by omega) (by omega)];omega
    rw[hwm];have hpl:ys.length< (psM half ys).length:=by unfold psM;simp;omega
    have hgp:=YP (f:=Zo) hpl rfl;repeat'((first|(show DRAWN _ _ _ _ _ _ _;first|refine DRAWN.of (id:=10) Z1 mixed Z9y (by kernel_rfl) ?_)|refine ADD.mk (fun _ _=>?_)|refine AD ?_|refine FORK.mk ?_ ?_|(refine GET.at (row:=Zo (if y∈ys then 1 else 0)) (by rw[Nat.zero_add,Int.toNat_natCast];exact hgt) ?_;conv=>whnf)|(refine GET.at (row:=Zo (psM half ys)[ys.length]) (by rw[Nat.zero_add,Int.toNat_natCast];exact hgp) ?_;conv=>whnf)|refine AU ?_|(refine IW ?_ ?_<;>intro h<;>try(exfalso;omega)))<;>conv=>whnf)
    have hs3:((psM half ys).map Zo).set (0+(ys.length:Int).toNat) [SV.int .i64 (y:Int)]=(psM half (ys++ [y])).map Zo:=by rw[Z0Q (x:=ys.length) (by omega),Zc1 (by omega)]
    have hs4:((tkM half ys).map Zo).set (0+(y:Int).toNat) [XX (Value.int .i64 1)]=(tkM half (ys++ [y])).map Zo:=(Z0Q (x:=y) (v:=1) (by omega)).trans (congrArg (List.map Zo) (Zes (by simp) (fun z hz=>by simp[hz])));rw[hs3,hs4];have hxi:ys.length<ins.length:=by omega
    obtain⟨hI1,hI2⟩:=hI ys.length (by omega) hxi;have hps:(psM half (ys++ [y])).length=half:=by unfold psM;simp;omega
    have hpr:∀p∈psM half (ys++ [y]),-1<=p/\p< (half:Int):=ZgH (hp.snoc hny hok1 hyh).lt;have hft:=ZbZ labs half (psM half (ys++ [y])) bq ins cl.length ng ys.length m count hxi hlab hps hn hI1 hI2 hpr
    have hfm:fitM labs half bq ins (ys++ [y])=Z37 labs half (psM half (ys++ [y])) bq ins[ys.length]:=by
     unfold fitM;rw[show(ys++ [y]).length-1=ys.length by simp,List.getD_eq_getElem?_getD,List.getElem?_eq_getElem hxi];rfl
    rw[<-hfm]at hft;have hpl2:ys.length< (psM half (ys++ [y])).length:=by omega
    have hgp2:=YP (f:=Zo) hpl2 rfl;have hgt2:((tkM half (ys++ [y])).map Zo)[y]?=some (Zo 1):=by unfold tkM;rw[List.getElem?_map,List.getElem?_map,List.getElem?_range hyh];simp
    have hb3:((psM half (ys++ [y])).map Zo).set (0+(ys.length:Int).toNat) [XX (Value.int .i64 (-1))]=(psM half ys).map Zo:=(Z0Q (x:=ys.length) (v:= -1) (by omega)).trans (congrArg (List.map Zo) (Zfr (by omega)));have hb4:((tkM half (ys++ [y])).map Zo).set (0+(y:Int).toNat) [XX (Value.int .i64 0)]=(tkM half ys).map Zo:=(Z0Q (x:=y) (v:=0) (by omega)).trans (congrArg (List.map Zo) (Zes (by rw[if_neg hny]) (fun z hz=>by simp[hz])));refine CALLE.calm ?_;refine CALL.aA [0,1,2,3,4,5,6,7,8] (hft) ?_;rintro r O nx ⟨rfl,rfl,rfl⟩;conv=>whnf
    refine IF.mk (fun hf=>?_) (fun hf=>?_)
    ·repeat'((first|refine AU ?_|(refine IW ?_ ?_<;>intro h<;>try(exfalso;omega)))<;>conv=>whnf)
     have ihc:=ih (ys++ [y]) m (by simp;omega) (by omega) (hp.snoc hny hok1 hyh);rw[show((ys++ [y]).length:Int)=IntKind.i64.wrap ((ys.length:Int)+1)by rw[Z6 (by omega) (by omega)];simp]at ihc;have hinv:=Z4X (fits:=fitM labs half bq ins) d (ys++ [y]) m (hp.snoc hny hok1 hyh);rw[if_pos hf]at hga;generalize Xi half (okM cl half) (fitM labs half bq ins) d (ys++ [y]) m=Z at ihc hinv hga;refine CALLE.aA [0,1,2,3,4,5,6,7,8] (ihc) ?_ ?_
     ·rintro r O nx ⟨rfl,hq⟩;cases Z with
      |found zs k=>
       obtain⟨rfl,rfl⟩:=hq;conv=>whnf
       repeat'((first|refine AU ?_|(refine IW ?_ ?_<;>intro h<;>try(exfalso;omega)))<;>conv=>whnf)
       exact FIN.aA h0 [] (.bool true) (seO half zs k ins) ⟨rfl,by rw[hga];exact⟨rfl,rfl⟩⟩
      |none k=>
       obtain⟨rfl,rfl⟩:=hq;rw[Zfs];conv=>whnf
       have hkm:=hinv.2 k rfl;repeat'((first|(show DRAWN _ _ _ _ _ _ _;first|refine DRAWN.of (id:=13) Z1 mixed Z3T (by kernel_rfl) ?_)|refine ADD.mk (fun _ _=>?_)|refine AD ?_|refine FORK.mk ?_ ?_|(refine GET.at (row:=Zo 1) (by rw[Nat.zero_add,Int.toNat_natCast];exact hgt2) ?_;conv=>whnf)|(refine GET.at (row:=Zo (psM half (ys++ [y]))[ys.length]) (by rw[Nat.zero_add,Int.toNat_natCast];exact hgp2) ?_;conv=>whnf)|refine AU ?_|(refine IW ?_ ?_<;>intro h<;>try(exfalso;omega)))<;>conv=>whnf)
       rw[hb3,hb4];refine⟨(y+1,k),⟨by dsimp only;omega,by dsimp only;omega,hga.symm⟩,by dsimp only;omega,?_⟩;dsimp only;conv=>whnf
       exact GOES.cA h0
      |over=>exact hq.elim
     ·rintro r O nx ⟨rfl,rfl,rfl,rfl⟩;exact⟨⟨rfl,trivial⟩,FIN.aA h0 [] (.ifc 32 (.int .i64 4)) [] ⟨rfl,rfl,rfl,hga⟩⟩
    ·rw[if_neg (by rw[hf];simp)]at hga;repeat'((first|(show DRAWN _ _ _ _ _ _ _;first|refine DRAWN.of (id:=13) Z1 mixed Z3T (by kernel_rfl) ?_)|refine ADD.mk (fun _ _=>?_)|refine AD ?_|refine FORK.mk ?_ ?_|(refine GET.at (row:=Zo 1) (by rw[Nat.zero_add,Int.toNat_natCast];exact hgt2) ?_;conv=>whnf)|(refine GET.at (row:=Zo (psM half (ys++ [y]))[ys.length]) (by rw[Nat.zero_add,Int.toNat_natCast];exact hgp2) ?_;conv=>whnf)|refine AU ?_|(refine IW ?_ ?_<;>intro h<;>try(exfalso;omega)))<;>conv=>whnf)
     rw[hb3,hb4];refine⟨(y+1,m),⟨by dsimp only;omega,by dsimp only;omega,hga.symm⟩,by dsimp only;omega,?_⟩;dsimp only;conv=>whnf
     exact GOES.cA h0
  ·have hRn:R= .none lf:=by rw[<-hg,List.drop_of_length_le (by rw[List.length_range];omega)];rfl
   rw[hRn];exact FIN.aA h0 [] (.bool false) (seO half ys lf ins) ⟨rfl,rfl,rfl⟩
def ins2(a b:List Qd):List (List Sd):=b.foldl (putS (ixF (Z0 a).length (Z0 b))) (ZK a++List.replicate (Z0 b).length [])
theorem VC(a b:List Qd):(ins2 a b).length=(Z0 a).length+(Z0 b).length:=by
 unfold ins2 ZK;rw[YU,List.length_append,YU,List.length_replicate,List.length_replicate]
theorem X4{l:List Qd}{q:Qd}{t:Tm}(hq:q∈l)(ht:t∈Zw q)(hk:t.k=2):t.t∈Z0 l:=by
 refine(J8 _ _).2 (List.mem_flatMap.2 ⟨q,hq,?_⟩);have hb:t.t∈Ym t:=by unfold Ym;rw[if_pos hk];exact List.mem_singleton_self _
 unfold Zw at ht;unfold YA;simp only[List.mem_cons,List.not_mem_nil,or_false]at ht;simp only[List.mem_append];rcases ht with rfl|rfl|rfl|rfl
 ·exact .inl (.inl (.inl hb))
 ·exact .inl (.inl (.inr hb))
 ·exact .inl (.inr hb)
 ·exact .inr hb
theorem Z6q{c:Int}{A:List LB}{x:LB}(h:x∈A):ixF c A x=c+(A.idxOf x:Nat):=by unfold ixF;rw[if_pos h]
theorem Z2H{c:Int}(hc:0<=c)(l:List Qd):∀q∈l,∀n∈ownM (ixF c (Z0 l)) q,c<=n/\n<c+((Z0 l).length:Int):=by
 intro q hq n hn;obtain⟨t,ht,hk,rfl⟩:=own_mem.1 hn;have hm:=X4 hq ht hk;have:=List.idxOf_lt_length_of_mem hm;rw[Z6q hm];omega
theorem XT(l:List Qd):(ZK l).length=(Z0 l).length:=by unfold ZK;rw[YU,List.length_replicate]
theorem Z4Y{a b:List Qd}{x:Nat}(hx:x< (Z0 a).length):(ins2 a b).getD x []=(a.filter fun q=>decide ((x:Int)∈ownM (ixF 0 (Z0 a)) q)).map (sdM (ixF 0 (Z0 a))):=by
 have h1:x< (ZK a++List.replicate (Z0 b).length []).length:=by rw[List.length_append,XT];omega
 have h2:x< (ins2 a b).length:=by rw[VC];omega
 have h3:x< (ZK a).length:=by rw[XT];exact hx
 rw[List.getD_eq_getElem?_getD,List.getElem?_eq_getElem h2,Option.getD_some];have e1:=U1 (f:=ixF (Z0 a).length (Z0 b)) (l:=b) h1 h2 fun q hq n hn=>by have:=Z2H (c:=(Z0 a).length) (by omega) b q hq n hn;omega
 have hb:b.filter (fun q=>decide ((x:Int)∈ownM (ixF (Z0 a).length (Z0 b)) q))=[]:=by
  rw[List.filter_eq_nil_iff];intro q hq;simp only[decide_eq_true_eq];intro hn;have:=Z2H (c:=(Z0 a).length) (by omega) b q hq _ hn;omega
 rw[hb,List.map_nil,List.append_nil,List.getElem_append_left h3]at e1;refine e1.trans ?_;have h4:x< (List.replicate (Z0 a).length ([]:List Sd)).length:=by rw[List.length_replicate];exact hx
 have e2:=U1 (f:=ixF 0 (Z0 a)) (l:=a) h4 h3 fun q hq n hn=>(Z2H (c:=0) (by omega) a q hq n hn).1;refine e2.trans ?_;rw[List.getElem_replicate,List.nil_append]
def prsM(A B:List LB)(zs:List Nat):List Pr:=List.zipWith (fun x y=>(x,B.getD y [])) A zs
theorem Zft{A B:List LB}{zs:List Nat}(h:zs.length<=A.length):(prsM A B zs).length=zs.length:=by unfold prsM;rw[List.length_zipWith];omega
theorem Z2I{p:Pr}{ps:List Pr}{s:LB}:toOf (p::ps) s=if p.1=s then some p.2 else toOf ps s:=by
 unfold toOf;rw[List.find?_cons];by_cases h:p.1=s
 ·simp[h]
 ·simp[h]
theorem Z9z{A B:List LB}(hn:A.Nodup){zs:List Nat}{i:Nat}(hi:i<zs.length)(hA:i<A.length):toOf (prsM A B zs) A[i]=some (B.getD zs[i] []):=by
 induction A generalizing zs i with
 |nil=>simp at hA
 |cons a A ih=>
  cases zs with
  |nil=>simp at hi
  |cons z zs=>
   have hd:=List.nodup_cons.1 hn;simp only[prsM,List.zipWith_cons_cons,Z2I];cases i with
   |zero=>exact if_pos rfl
   |succ i=>
    have hA':i<A.length:=by simpa using hA
    have hne:¬a=A[i]:=fun e=>hd.1 (e▸List.getElem_mem hA');simp only[List.getElem_cons_succ];rw[if_neg hne];exact ih hd.2 (by simpa using hi) hA'
theorem ZdF{A B:List LB}{zs:List Nat}{s:LB}(h:∀i (hi:i<A.length),i<zs.length->A[i]≠s):toOf (prsM A B zs) s=none:=by
 induction A generalizing zs with
 |nil=>simp[prsM,toOf]
 |cons a A ih=>
  cases zs with
  |nil=>simp[prsM,toOf]
  |cons z zs=>
   simp only[prsM,List.zipWith_cons_cons,Z2I];rw[if_neg (show ¬a=s from h 0 (by simp) (by simp))];exact ih fun i hi hz=>h (i+1) (by simpa using hi) (by simpa using hz)
def renT(ps:List Pr)(t:Tm):Tm:=if t.k=2 then{t with t:=(toOf ps t.t).getD []}else t
def renQ(ps:List Pr)(q:Qd):Qd:=⟨renT ps q.s,renT ps q.p,renT ps q.o,renT ps q.g⟩
def inQ(last:LB)(q:Qd):Bool:=(Zw q).any fun t=>decide (t.k=2)&&decide (t.t=last)
def allQ(ps:List Pr)(q:Qd):Bool:=(Zw q).all fun t=>!decide (t.k=2)||(toOf ps t.t).isSome
def ZdG(ps:List Pr)(last:LB)(bq:List Qd)(q:Qd):Bool:=inQ last q&&allQ ps q&&!decide (renQ ps q∈bq)
theorem Zc2{half:Nat}{zs:List Nat}{i:Nat}(hi:i<half)(hz:zs.length<=half):(psM half zs).getD i 0=if h:i<zs.length then(zs[i]:Int)else-1:=by
 unfold psM;rw[List.getD_eq_getElem?_getD];by_cases h:i<zs.length
 ·rw[dif_pos h,List.getElem?_append_left (by rw[List.length_map];exact h),List.getElem?_map,List.getElem?_eq_getElem h];rfl
 ·rw[dif_neg h,List.getElem?_append_right (by rw[List.length_map];omega),List.length_map,List.getElem?_replicate,if_pos (by omega)];rfl
section
variable {a b:List Qd}{zs:List Nat}(hAB:(Z0 b).length=(Z0 a).length)(hz:zs.length<=(Z0 a).length)
include hz in
theorem Z4Z{q:Qd}(hq:q∈a){t:Tm}(ht:t∈Zw q):(decide (numM (ixF 0 (Z0 a)) t<0)||decide (0<=(psM (Z0 a).length zs).getD (numM (ixF 0 (Z0 a)) t).toNat 0))=(!decide (t.k=2)||(toOf (prsM (Z0 a) (Z0 b) zs) t.t).isSome):=by
 have hnd:(Z0 a).Nodup:=Ye triL (Xy triL _);unfold numM;by_cases hk:t.k=2
 ·have hm:=X4 hq ht hk;have hi:=List.idxOf_lt_length_of_mem hm;rw[if_pos hk,Z6q hm,show(0+(((Z0 a).idxOf t.t:Nat):Int)).toNat=(Z0 a).idxOf t.t by omega,Zc2 hi hz];simp only[hk,decide_true,Bool.not_true,Bool.false_or];rw[decide_eq_false (by omega),Bool.false_or];split
  ·rename_i h;have:=Z9z (B:=Z0 b) hnd h hi;rw[List.getElem_idxOf hi]at this;rw[this];simp
  ·rename_i h;rw[ZdF]
   ·simp
   ·intro i hil hiz e;rw[<-e,hnd.idxOf_getElem i hil]at h;omega
 ·rw[if_neg hk];simp[hk]
include hz in
theorem ZdH{q:Qd}(hq:q∈a):WI (psM (Z0 a).length zs) (sdM (ixF 0 (Z0 a)) q)=allQ (prsM (Z0 a) (Z0 b) zs) q:=by
 unfold WI allQ nsM sdM Zw;simp only[List.all_cons,List.all_nil];rw[Z4Z (b:=b) hz hq (t:=q.s) (by simp[Zw]),Z4Z (b:=b) hz hq (t:=q.p) (by simp[Zw]),Z4Z (b:=b) hz hq (t:=q.o) (by simp[Zw]),Z4Z (b:=b) hz hq (t:=q.g) (by simp[Zw])]
include hz in
theorem ZdI{q:Qd}(hq:q∈a){t:Tm}(ht:t∈Zw q)(hw:t.k=2->(toOf (prsM (Z0 a) (Z0 b) zs) t.t).isSome=true):imgT (Z0 a++Z0 b) (Z0 a).length (psM (Z0 a).length zs) t (numM (ixF 0 (Z0 a)) t)=renT (prsM (Z0 a) (Z0 b) zs) t:=by
 have hnd:(Z0 a).Nodup:=Ye triL (Xy triL _);unfold imgT renT numM;by_cases hk:t.k=2
 ·have hm:=X4 hq ht hk;have hi:=List.idxOf_lt_length_of_mem hm;rw[if_pos hk,if_pos hk,Z6q hm,if_neg (by omega),show(0+(((Z0 a).idxOf t.t:Nat):Int)).toNat=(Z0 a).idxOf t.t by omega,Zc2 hi hz];split
  ·rename_i h;have:=Z9z (B:=Z0 b) hnd h hi;rw[List.getElem_idxOf hi]at this;rw[this,Option.getD_some];congr 1;rw[show(((Z0 a).length:Int)+(zs[(Z0 a).idxOf t.t]:Nat)).toNat=(Z0 a).length+zs[(Z0 a).idxOf t.t]by omega];rw[List.getD_eq_getElem?_getD,List.getElem?_append_right (by omega),Nat.add_sub_cancel_left,<-List.getD_eq_getElem?_getD]
  ·rename_i h;have:=hw hk;rw[ZdF]at this
   ·simp at this
   ·intro i hil hiz e;rw[<-e,hnd.idxOf_getElem i hil]at h;omega
 ·rw[if_neg hk,if_pos (by omega),if_neg hk]
include hz in
theorem ZgI{q:Qd}(hq:q∈a)(hw:allQ (prsM (Z0 a) (Z0 b) zs) q=true):imgQ (Z0 a++Z0 b) (Z0 a).length (psM (Z0 a).length zs) (sdM (ixF 0 (Z0 a)) q)=renQ (prsM (Z0 a) (Z0 b) zs) q:=by
 unfold allQ at hw;rw[List.all_eq_true]at hw;have h:∀t∈Zw q,t.k=2->(toOf (prsM (Z0 a) (Z0 b) zs) t.t).isSome=true:=fun t ht hk=>by simpa[hk]using hw t ht
 unfold imgQ renQ sdM;simp only;rw[ZdI (b:=b) hz hq (t:=q.s) (by simp[Zw]) (h _ (by simp[Zw])),ZdI (b:=b) hz hq (t:=q.p) (by simp[Zw]) (h _ (by simp[Zw])),ZdI (b:=b) hz hq (t:=q.o) (by simp[Zw]) (h _ (by simp[Zw])),ZdI (b:=b) hz hq (t:=q.g) (by simp[Zw]) (h _ (by simp[Zw]))]
theorem Zho{q:Qd}(hq:q∈a){x:Nat}(hx:x< (Z0 a).length):decide ((x:Int)∈ownM (ixF 0 (Z0 a)) q)=inQ (Z0 a)[x] q:=by
 have hnd:(Z0 a).Nodup:=Ye triL (Xy triL _);unfold inQ;rw[Bool.eq_iff_iff,decide_eq_true_iff,own_mem,List.any_eq_true];constructor
 ·rintro⟨t,ht,hk,he⟩;have hm:=X4 hq ht hk;have hi:=List.idxOf_lt_length_of_mem hm;rw[Z6q hm]at he;have hx':(Z0 a).idxOf t.t=x:=by omega
  subst hx';exact⟨t,ht,by simp[hk,List.getElem_idxOf hi]⟩
 ·rintro⟨t,ht,he⟩;simp only[Bool.and_eq_true,decide_eq_true_eq]at he;refine⟨t,ht,he.1,?_⟩;rw[he.2,Z6q (List.getElem_mem hx),hnd.idxOf_getElem x hx];omega
include hz in
theorem ZgJ{x:Nat}(hx:zs.length=x+1):fitM (Z0 a++Z0 b) (Z0 a).length b (ins2 a b) zs=!(a.any (ZdG (prsM (Z0 a) (Z0 b) zs) ((Z0 a)[x]'(by omega)) b)):=by
 have hxl:x< (Z0 a).length:=by omega
 unfold fitM;rw[hx,Nat.add_sub_cancel,Z4Y hxl];unfold Z37;rw[List.all_map,List.all_filter,List.not_any_eq_all_not]
 have key:∀q∈a,(!decide ((x:Int)∈ownM (ixF 0 (Z0 a)) q)||((fun s=>!WI (psM (Z0 a).length zs) s||decide (imgQ (Z0 a++Z0 b) (Z0 a).length (psM (Z0 a).length zs) s∈b))∘sdM (ixF 0 (Z0 a))) q)=!ZdG (prsM (Z0 a) (Z0 b) zs) (Z0 a)[x] b q:=by
  intro q hq;unfold ZdG;rw[Zho hq hxl,Function.comp_apply,ZdH (b:=b) hz hq];cases hw:allQ (prsM (Z0 a) (Z0 b) zs) q with
  |false=>simp
  |true=>rw[ZgI hz hq hw];cases inQ (Z0 a)[x] q<;>simp
 rw[Bool.eq_iff_iff,List.all_eq_true,List.all_eq_true];exact⟨fun h q hq=>by rw[<-key q hq];exact h q hq,fun h q hq=>by rw[key q hq];exact h q hq⟩
end
theorem ZdJ{x:Tm}(h:checkM x=0):TmOK 1048576 x:=by
 have h1:=Zbm h;have h2:=Z9a h;unfold TmOK I64;omega
theorem ZgK{q:Qd}(h:X5 q=0):TmOK 1048576 q.s/\TmOK 1048576 q.p/\TmOK 1048576 q.o/\TmOK 1048576 q.g:=by
 obtain⟨h1,h2,h3,h4,_⟩:=Z7k h;refine⟨ZdJ h1,ZdJ h2,ZdJ h3,?_⟩;rcases h4 with e|e
 ·rw[e];unfold TmOK I64 Y6;decide
 ·exact ZdJ e
structure DsOK(l:List Qd):Prop where
 rise:Rise ZH l
 few:l.length<=1048576
 ck:∀q∈l,X5 q=0
theorem ZgL{l:List Qd}(h:(XD l).2=0):DsOK l:=⟨(Z3K h).1,(Z3K h).2,Z6a h⟩
theorem Ja{l:List Qd}(h:DsOK l):(Z0 l).length<=4194304:=by
 have hAl:(Z0 l).length<=l.length*4:=Nat.le_trans (JA _) (Xz _ Ys _);have:=h.few;omega
theorem Zc3{a b:List Qd}{x:Nat}(hx:(Z0 a).length<=x)(hx2:x< (ins2 a b).length):(ins2 a b)[x]=(b.filter fun q=>decide ((x:Int)∈ownM (ixF (Z0 a).length (Z0 b)) q)).map (sdM (ixF (Z0 a).length (Z0 b))):=by
 have hl:=VC a b;have h1:x< (ZK a++List.replicate (Z0 b).length []).length:=by rw[List.length_append,XT,List.length_replicate];omega
 have e1:=U1 (f:=ixF (Z0 a).length (Z0 b)) (l:=b) h1 hx2 fun q hq n hn=>by have:=Z2H (c:=(Z0 a).length) (by omega) b q hq n hn;omega
 refine e1.trans ?_;rw[List.getElem_append_right (by rw[XT];exact hx),List.getElem_replicate,List.nil_append]
theorem Zet{c:Int}(hc:0<=c){l:List Qd}{q:Qd}(hq:q∈l){t:Tm}(ht:t∈Zw q): -1<=numM (ixF c (Z0 l)) t/\numM (ixF c (Z0 l)) t<c+((Z0 l).length:Int):=by
 unfold numM;split
 ·rename_i hk;have hm:=X4 hq ht hk;have:=List.idxOf_lt_length_of_mem hm;rw[Z6q hm];omega
 ·omega
theorem ZgM{c:Int}(hc:0<=c){l:List Qd}(h:DsOK l){n:Nat}(hn:c+((Z0 l).length:Int)<=n){q:Qd}(hq:q∈l):SdOK 1048576 n (sdM (ixF c (Z0 l)) q):=by
 obtain⟨t1,t2,t3,t4⟩:=ZgK (h.ck q hq);have k:∀t∈Zw q,-1<=numM (ixF c (Z0 l)) t/\numM (ixF c (Z0 l)) t< (n:Int):=fun t ht=>by have:=Zet hc hq ht;omega
 exact⟨t1,t2,t3,t4,k _ (by simp[Zw]),k _ (by simp[Zw]),k _ (by simp[Zw]),k _ (by simp[Zw])⟩
theorem wok2{a b:List Qd}(ha:DsOK a)(hb:DsOK b):WOK (List.replicate ((Z0 a).length+(Z0 b).length) 0) (ins2 a b):=by
 have hl:=VC a b;have h1:=Ja ha;have h2:=Ja hb
 have hg:∀m∈ins2 a b,(∃p,m=(a.filter p).map (sdM (ixF 0 (Z0 a))))\/∃p,m=(b.filter p).map (sdM (ixF (Z0 a).length (Z0 b))):=by
  intro m hm;obtain⟨x,hx,rfl⟩:=List.mem_iff_getElem.1 hm;by_cases hlo:x< (Z0 a).length
  ·have:=Z4Y (a:=a) (b:=b) hlo;rw[List.getD_eq_getElem?_getD,List.getElem?_eq_getElem hx,Option.getD_some]at this;exact .inl ⟨_,this⟩
  ·exact .inr ⟨_,Zc3 (by omega) hx⟩
 refine⟨by rw[hl,List.length_replicate],fun c hc=>by rw[List.eq_of_mem_replicate hc];omega,fun m hm s hs=>?_,fun m hm=>?_,by rw[List.length_replicate];omega⟩
 ·rw[List.length_replicate];rcases hg m hm with⟨p,rfl⟩|⟨p,rfl⟩
  ·obtain⟨q,hq,rfl⟩:=List.mem_map.1 hs;exact ZgM (by omega) ha (by omega) (List.mem_filter.1 hq).1
  ·obtain⟨q,hq,rfl⟩:=List.mem_map.1 hs;exact ZgM (by omega) hb (by omega) (List.mem_filter.1 hq).1
 ·rcases hg m hm with⟨p,rfl⟩|⟨p,rfl⟩
  ·rw[List.length_map];exact Nat.le_trans (Nat.le_trans (List.length_filter_le _ _) ha.few) (by omega)
  ·rw[List.length_map];exact Nat.le_trans (Nat.le_trans (List.length_filter_le _ _) hb.few) (by omega)
def gndM(l:List Qd):List Qd:=l.filter fun q=>(Zw q).all fun t=>!decide (t.k=2)
theorem Z6r(f:LB->Int)(l:List Qd):J9 f l=gndM l:=by
 unfold J9 gndM;congr 1;funext q;rw[Bool.eq_iff_iff,decide_eq_true_iff,List.all_eq_true];constructor
 ·intro h t ht;refine Decidable.byContradiction fun hk=>?_;have hk:t.k=2:=by simpa using hk
  have:f t.t∈ownM f q:=own_mem.2 ⟨t,ht,hk,rfl⟩;rw[h]at this;cases this
 ·intro h;refine List.eq_nil_iff_forall_not_mem.2 fun n hn=>?_;obtain⟨t,ht,hk,_⟩:=own_mem.1 hn;have:=h t ht;simp[hk]at this
def Z7s(F:List Int)(n:Nat):Prop:=∀k:Int,(F.take n).count k=(F.drop n).count k
def leftM(budget:Int):Nat:=(max 0 (min budget 65536)).toNat
def Z3U(a b:List Qd):Prop:=a.length=b.length/\(Z0 a).length=(Z0 b).length/\gndM a=gndM b
open Classical in
noncomputable def Z7t (a b:List Qd)(F:List Int)(budget:Int):List Pr×Int:=
 if Z7s F (Z0 a).length then
  match Xi (Z0 a).length (okM F (Z0 a).length) (fitM (Z0 a++Z0 b) (Z0 a).length b (ins2 a b)) (Z0 a).length [] (leftM budget)with
  | .found zs _=>(prsM (Z0 a) (Z0 b) zs,0)
  | .none _=>([],140)
  | .over=>([],4)
 else([],140)
def ct0(n:Nat):Int:=if(n:Int)<1 then(n:Int)else 1
def FindIs(a b:List Qd)(budget:Int)(ps:List Pr)(e:Int):Prop:=
 (X6 a b≠0/\ps=[]/\e=X6 a b)\/
 (X6 a b=0/\¬Z3U a b/\ps=[]/\e=140)\/
 (X6 a b=0/\Z3U a b/\∃F c,Settles (ins2 a b) (List.replicate ((Z0 a).length+(Z0 b).length) 0) (ct0 ((Z0 a).length+(Z0 b).length)) F c/\(ps,e)=Z7t a b F budget)
theorem FindIs.det{a b:List Qd}{budget:Int}{ps ps':List Pr}{e e':Int}(h:FindIs a b budget ps e)(h':FindIs a b budget ps' e'):ps'=ps/\e'=e:=by
 rcases h with⟨h1,rfl,rfl⟩|⟨h1,hn,rfl,rfl⟩|⟨h1,hs1,F,c,hs,he⟩
 ·rcases h' with⟨_,rfl,rfl⟩|⟨h2,_⟩|⟨h2,_⟩
  ·exact⟨rfl,rfl⟩
  ·exact(h1 h2).elim
  ·exact(h1 h2).elim
 ·rcases h' with⟨h2,_⟩|⟨_,_,rfl,rfl⟩|⟨_,h2,_⟩
  ·exact(h2 h1).elim
  ·exact⟨rfl,rfl⟩
  ·exact(hn h2).elim
 ·rcases h' with⟨h2,_⟩|⟨_,h2,_⟩|⟨_,_,F',c',hs',he'⟩
  ·exact(h2 h1).elim
  ·exact(h2 hs1).elim
  ·obtain⟨rfl,rfl⟩:=hs.det hs';rw[<-he]at he';injection he' with h3 h4;exact⟨h3,h4⟩
theorem U2{a b:List Qd}(h:X6 a b=0):DsOK a/\DsOK b:=by
 unfold X6 at h;split at h
 ·rename_i h1;exact(h1 h).elim
 ·rename_i h1;exact⟨ZgL (by simpa using h1),ZgL h⟩
def dfM(F:List Int)(n x k:Nat):Int:=(((F.take x).take n).count (k:Int):Int)-(((F.take x).drop n).count (k:Int):Int)
def dfL(F:List Int)(n c x:Nat):List Int:=(List.range c).map (dfM F n x)
theorem Zc4(F:List Int)(n c x:Nat):(dfL F n c x).length=c:=by simp[dfL]
theorem ZdK(F:List Int)(n c:Nat):dfL F n c 0=List.replicate c 0:=by
 unfold dfL dfM;rw[List.eq_replicate_iff];simp
theorem Zc5{F:List Int}{n x:Nat}(k:Nat)(h:x<F.length):dfM F n (x+1) k=dfM F n x k+(if F[x]=(k:Int)then(if x<n then 1 else-1)else 0):=by
 have hl:(F.take x).length=x:=by rw[List.length_take];omega
 unfold dfM;rw[List.take_succ_eq_append_getElem h,List.take_append,List.drop_append,hl,List.count_append,List.count_append];by_cases hx:x<n
 ·rw[if_pos hx,show n-x=(n-x-1)+1 by omega,List.take_succ_cons,List.take_nil,List.drop_succ_cons,List.drop_nil,List.count_cons,List.count_nil];by_cases e:F[x]=(k:Int)
  ·simp[e];omega
  ·simp[e]
 ·rw[if_neg hx,show n-x=0 by omega,List.take_zero,List.drop_zero,List.count_nil,List.count_cons,List.count_nil];by_cases e:F[x]=(k:Int)
  ·simp[e];omega
  ·simp[e]
theorem Zc6{F:List Int}{n c x:Nat}(h:x<F.length)(hf:0<=F[x]/\F[x]< (c:Int)){v:Int}(hv:v=dfM F n x F[x].toNat+(if x<n then 1 else-1)):(dfL F n c x).set F[x].toNat v=dfL F n c (x+1):=by
 apply List.ext_getElem?;intro i;rw[List.getElem?_set];unfold dfL;simp only[List.length_map,List.length_range,List.getElem?_map];by_cases hi:F[x].toNat=i
 ·subst hi;rw[if_pos rfl,if_pos (by omega),List.getElem?_range (by omega),Option.map_some,Zc5 _ h,if_pos (by omega),hv]
 ·rw[if_neg hi];by_cases hic:i<c
  ·rw[List.getElem?_range hic,Option.map_some,Option.map_some,Zc5 _ h,if_neg (by omega),Int.add_zero]
  ·rw[List.getElem?_eq_none (by simp;omega)];rfl
theorem ZgN{F:List Int}{n c x k:Nat}(h:k<c):(dfL F n c x)[k]?=some (dfM F n x k):=by unfold dfL;rw[List.getElem?_map,List.getElem?_range h];rfl
theorem ZdL(F:List Int)(n x k:Nat): -(F.length:Int)<=dfM F n x k/\dfM F n x k<=F.length:=by
 have h1:((F.take x).take n).count (k:Int)<=F.length:=Nat.le_trans List.count_le_length (by simp;omega);have h2:((F.take x).drop n).count (k:Int)<=F.length:=Nat.le_trans List.count_le_length (by simp;omega);unfold dfM;omega
theorem ZdM{F:List Int}{n c:Nat}(hf:∀x∈F,0<=x/\x< (c:Int)):(∀d∈dfL F n c F.length,d=0)<->Z7s F n:=by
 unfold dfL;constructor
 ·intro h k;by_cases hk:0<=k/\k< (c:Int)
  ·have:=h (dfM F n F.length k.toNat) (List.mem_map.2 ⟨k.toNat,List.mem_range.2 (by omega),rfl⟩);unfold dfM at this;rw[List.take_length,show((k.toNat:Nat):Int)=k by omega]at this;omega
  ·rw[List.count_eq_zero_of_not_mem fun hm=>hk (hf k (List.mem_of_mem_take hm)),List.count_eq_zero_of_not_mem fun hm=>hk (hf k (List.mem_of_mem_drop hm))]
 ·intro h d hd;obtain⟨k,_,rfl⟩:=List.mem_map.1 hd;unfold dfM;rw[List.take_length,h k];omega
open Tryz
def gRow(l:List Qd):List DC:=[.kid 16 (l.map Zl)]
def gD(gs:List (List Qd)):List (List DC):=gs.map gRow
theorem Zc7:∀gs:List (List Qd),ZF (gD gs)=true
 | []=>rfl
 |l::gs=>by simp only[gD,List.map_cons,gRow,ZF,YL,VD,Zb,Bool.and_self,Bool.true_and];exact Zc7 gs
instance {gs:List (List Qd)}:PlD (gD gs):=⟨Zc7 gs⟩
theorem ZgO(gs:List (List Qd))(l:List Qd):gD gs++ [gRow l]=gD (gs++ [l]):=by simp[gD]
theorem Z7u{a:List Qd}(ha:DsOK a):∀m∈ZK a,m.length<=1048576:=by
 intro m hm;obtain⟨x,hx,rfl⟩:=List.mem_iff_getElem.1 hm;have hx2:x< (List.replicate (Z0 a).length ([]:List Sd)).length:=by rw[List.length_replicate,<-XT];exact hx
 have e:=U1 (f:=ixF 0 (Z0 a)) (l:=a) hx2 hx fun q hq n hn=>(Z2H (c:=0) (by omega) a q hq n hn).1;rw[show(ZK a)[x]=_ from e,List.getElem_replicate,List.nil_append,List.length_map];exact Nat.le_trans (List.length_filter_le _ _) ha.few
def w2Hp(k:Nat)(labs:List LB)(cls:List Int)(ins:List (List Sd))(gs:List (List Qd))(count:Int):Hps:=
 [(k, .box [.sl (.loc (k+1)) 0 1 labs.length none, .sl (.loc (k+2)) 0 1 cls.length none, .sl (.loc (k+3)) 0 1 ins.length none, .sl (.loc (k+4)) 0 1 gs.length none, .int .i64 count]),(k+1, .rows 1 (labs.map Z3)),(k+2, .rows 1 (cls.map Zo)),(k+3, .deep false 1 (inD ins)),(k+4, .deep false 1 (gD gs))]
theorem ZgP(gs:List (List Qd)){n:Nat}{k:Nat}{T:Tab}{e:TypeId}(hT:appV T e (.sl (.loc k) 0 16 n none)= .v (.sl (.loc k) 0 16 n none)):(gD gs).take gs.length++List.map (fun row=>row.map (appV T e)) (List.take 1 (List.drop 0 [[.sl (.loc k) 0 16 n none]]))=gD gs++ [[.v (.sl (.loc k) 0 16 n none)]]:=by
 rw[List.take_of_length_le (by simp[gD])];simp only[List.map_cons,List.map_nil,List.drop_zero,List.take_succ_cons,List.take_zero,hT]
theorem g_at(gs:List (List Qd)){sv:SV}:(gD gs++ [[DC.v sv]])[gs.length]?=some [.v sv]:=by
 rw[List.getElem?_append_right (by simp[gD])];simp[gD]
theorem ZgQ(gs:List (List Qd)){l:List Qd}{sv:SV}:setC (gD gs++ [[DC.v sv]]) gs.length 0 (.kid 16 ((l.map Zl).take l.length))=gD (gs++ [l]):=by
 rw[List.take_of_length_le (by rw[List.length_map];exact Nat.le_refl _)];apply List.ext_getElem?;intro i;rw[ZR,<-ZgO];by_cases h:i=gs.length
 ·subst h;rw[if_pos rfl,g_at,List.getElem?_append_right (by simp[gD])];simp[gD,gRow]
 ·rw[if_neg h,List.getElem?_append,List.getElem?_append];have hl:(gD gs).length=gs.length:=by simp[gD]
  by_cases h2:i< (gD gs).length
  ·rw[if_pos h2,if_pos h2]
  ·rw[if_neg h2,if_neg h2,List.getElem?_eq_none (by simp;omega),List.getElem?_eq_none (by simp;omega)]
theorem Z9A(a za b zb:List Qd)(lima limb:Option Nat)(ha:DsOK a)(hb:DsOK b)(hza:(a++za).length<=1152921504606846976)(hzb:(b++zb).length<=1152921504606846976):
 Does prog tab 36 3 [.sl (.loc 0) 0 1 2 none] [] [(0, .rows 1 [[.sl (.loc 1) 0 16 a.length lima],[.sl (.loc 2) 0 16 b.length limb]]),(1, .rows 16 ((a++za).map Zl)),(2, .rows 16 ((b++zb).map Zl))]
 (fun r O nx=>r= .ptr (.loc 3) 0 0 0/\O=w2Hp 3 (Z0 a++Z0 b) (List.replicate ((Z0 a).length+(Z0 b).length) 0) (ins2 a b) [gndM a,gndM b] (ct0 ((Z0 a).length+(Z0 b).length))/\nx=8):=by
 have hfa:=ha.few;have hfb:=hb.few;refine Does.enter Z1 call36 func36 rfl 106 rfl rfl [.tmp 2] rfl ?_;intro w0 F η0 h0;conv=>whnf
 repeat'((first|refine AU ?_|(refine IW ?_ ?_<;>intro h<;>try(exfalso;omega)))<;>conv=>whnf)
 refine LOOP.nilCell 3 0 1 rfl rfl (LOOP.nilCell 3 2 1 rfl rfl (LOOP.nilCell 3 3 1 rfl rfl (GHO.loop (GHO.deepen 5 [] rfl ⟨rfl,fun a r h=>by simp at h⟩) (GHO.loop (GHO.deepen 6 [] rfl ⟨rfl,fun a r h=>by simp at h⟩) ?_))));obtain⟨LS,hLS⟩:∃LS:Nat->List LB,LS=fun i=>if i=0 then []else if i=1 then Z0 a else Z0 a++Z0 b:=⟨_,rfl⟩
 obtain⟨IS,hIS⟩:∃IS:Nat->List (List Sd),IS=fun i=>if i=0 then []else if i=1 then ZK a else ins2 a b:=⟨_,rfl⟩
 obtain⟨GS,hGS⟩:∃GS:Nat->List (List Qd),GS=fun i=>if i=0 then []else if i=1 then [gndM a]else [gndM a,gndM b]:=⟨_,rfl⟩
 refine LOOP.gok Z1 [3,15,16] [] (X:=Nat) (fun i=>i<=2) (fun i=>[(17, .int .i64 (i:Int))])
  (fun i=>[(3, .box [.sl (.loc 4) 0 1 (LS i).length none, .val (.slice none 0 0), .sl (.loc 5) 0 1 (IS i).length none, .sl (.loc 6) 0 1 (GS i).length none, .int .i64 0]),(4, .rows 1 ((LS i).map Z3)),(5, .deep false 1 (inD (IS i))),(6, .deep false 1 (gD (GS i)))]) 7 (fun i=>2-i) 0 (by omega) ?_
 conv=>whnf
 refine⟨by subst hLS hIS hGS;exact GOES.cA h0,?_⟩;intro i hi;conv=>whnf
 refine IF.mk (fun h=>?_) (fun h=>?_)
 ·have h:i<2:=by simp at h;omega
  rcases(by omega:i=0\/i=1)with rfl|rfl
  ·as_aux_lemma=>
   obtain⟨L0,hL0⟩:∃L0,L0=LS 0:=⟨_,rfl⟩;obtain⟨I0,hI0⟩:∃I0,I0=IS 0:=⟨_,rfl⟩;obtain⟨G0,hG0⟩:∃G0,G0=GS 0:=⟨_,rfl⟩;rw[<-hL0,<-hI0,<-hG0];conv=>whnf
   repeat'((first|(refine GET.at rfl ?_;conv=>whnf)|refine AU ?_|(refine IW ?_ ?_<;>intro h<;>try(exfalso;omega)))<;>conv=>whnf)
   have hL1:LS 1=L0++Z0 a:=by rw[hL0,hLS];rfl
   have hI1:IS 1=a.foldl (putS (ixF (L0.length:Int) (Z0 a))) (I0++List.replicate (Z0 a).length []):=by rw[hI0,hIS,hL0,hLS];rfl
   have hG1:GS 1=G0++ [gndM a]:=by rw[hG0,hGS];rfl
   have hIL:I0.length=L0.length:=by rw[hI0,hIS,hL0,hLS];rfl
   have hIb:∀m∈I0,m.length<=1048576:=by rw[hI0,hIS];intro m hm;cases hm
   have hLb:L0.length<=4194304:=by rw[hL0,hLS];simp
   have hGl:G0.length<=1:=by rw[hG0,hGS];simp
   clear hL0 hI0 hG0 hLS hIS hGS;have hfew:=ha.few;have hbl:=Yd a za lima (by unfold Xf;omega) hza;have hnd:(Z0 a).Nodup:=Ye triL (Xy triL _);have hAl:=Ja ha;have hI2:=Z2H (c:=(L0.length:Int)) (by omega) a;have hset:setL cmpL (ZD a)=Z0 a:=rfl;have hge:=Z6r (ixF (L0.length:Int) (Z0 a)) a;refine CALL.aA [1] (hbl) ?_;rintro r O nx ⟨jj,hjj,rfl,rfl,rfl⟩;have hcn:Zk [1] (7+1) 1=8:=rfl;simp only[renO,renH,ren,renB,ZQ _ (Zr _),List.cons_append,List.nil_append,hcn];rw[hset]at hjj⊢;generalize Z0 a=A at hnd hjj hAl hI2 hL1 hI1 hge⊢;have hLA:(L0++A).length=L0.length+A.length:=List.length_append;conv=>whnf
   repeat'((first|refine AU ?_|(refine IW ?_ ?_<;>intro h<;>try(exfalso;omega)))<;>conv=>whnf)
   refine LOOP.gok Z1 [3,5,6,7,15,16,17,28,29] [6,8] (X:=Nat) (fun i=>i<=A.length) (fun i=>[(30, .int .i64 (i:Int))])
    (fun i=>[(3, .box [.sl (.loc 4) 0 1 (L0.length+i) none, .val (.slice none 0 0), .sl (.loc 5) 0 1 (I0.length+i) none, .sl (.loc 6) 0 1 G0.length none, .int .i64 0]),(7, .mp (numT (Jk L0.length A i))),(4, .rows 1 (((L0++A).take (L0.length+i)).map Z3)),(5, .deep false 1 (inD (I0++List.replicate i [])))]) 9 (fun i=>A.length-i) 0 (by omega) ?_
   conv=>whnf
   refine⟨by simp only[Nat.add_zero,List.take_left,List.replicate_zero,List.append_nil];exact GOES.cA h0,?_⟩;intro i hi;have hti:((L0++A).take (L0.length+i)).length=L0.length+i:=by rw[List.length_take];omega
   have hri:(I0++List.replicate i ([]:List Sd)).length=I0.length+i:=by rw[List.length_append,List.length_replicate]
   conv=>whnf
   refine IF.mk (fun h=>?_) (fun h=>?_)
   ·as_aux_lemma=>
    have hlt:i<A.length:=by simp at h;omega
    have hs:=JW (b:=(L0.length:Int)) hlt;have hw:IntKind.i64.wrap ((L0.length:Int)+(i:Int))=(L0.length:Int)+i:=Z6 (by omega) (by omega);have hga:(L0++A)[L0.length+i]'(by omega)=A[i]:=by rw[List.getElem_append_right (by omega)];congr 1;omega
    have hap:=Z4U (L0++A) (i:=L0.length+i) (by omega);rw[hga]at hap;have hia:=ZbH (I0++List.replicate i []) hri.symm (T:=tab) (e:=141) rfl;rw[List.append_assoc,<-List.replicate_succ']at hia;conv=>whnf
    repeat'(first|(refine GET.at (row:=Z3 A[i]) (Zbr hlt (by omega)) ?_;conv=>whnf)|(refine NEED.mk ⟨KT.ok _,YK KT _ _⟩ ?_;conv=>whnf)|(rw[hw];conv=>whnf)|(refine NEED.mk (Yc 24 rfl rfl rfl (by rw[Z73,hri];exact Nat.le_refl _) (by omega)) ?_;conv=>whnf)|(refine NEED.mk (Yc 16 rfl rfl rfl (by rw[List.length_map,hti];exact Nat.le_refl _) (by omega)) ?_;conv=>whnf)|(refine AU ?_;conv=>whnf))
    rw[hia,hap]
    first|rw[Z3M,<-hs]|rw[Z2w,<-hs]
    refine⟨i+1,by omega,by omega,?_⟩;conv=>whnf
    exact GOES.kA h0 [3,10,12,6,7,8]
   ·as_aux_lemma=>
    have hie:i=A.length:=by simp at h;omega
    subst hie;rw[List.take_of_length_le (by omega)];conv=>whnf
    repeat'((first|refine AU ?_|(refine IW ?_ ?_<;>intro h<;>try(exfalso;omega)))<;>conv=>whnf)
    refine LOOP.nil 10 16 rfl ?_;have hfA:=ZbG (b:=(L0.length:Int)) hnd;obtain⟨J,hJ⟩:∃J,J=I0++List.replicate A.length ([]:List Sd):=⟨_,rfl⟩
    have hJb:∀m∈J,m.length<=1048576:=by
     rw[hJ];intro m hm;rcases List.mem_append.1 hm with h1|h1
     ·exact hIb m h1
     ·rw[List.eq_of_mem_replicate h1];simp
    rw[<-hJ]at hri hI1⊢;rw[<-hri];have hins:∀j,((a.take j).foldl (putS (ixF (L0.length:Int) A)) J).length=J.length:=fun j=>YU _ _ _
    refine LOOP.gok Z1 [3,7,15,16,17,60,61] [4,6,7] (X:=Nat×List Qd) (fun x=>x.1<=a.length/\x.2=J9 (ixF (L0.length:Int) A) (a.take x.1)) (fun x=>[(62, .int .i64 (x.1:Int)),(10, .sl (.loc 9) 0 16 x.2.length none)])
     (fun x=>[(3, .box [.sl (.loc 4) 0 1 (L0.length+A.length) none, .val (.slice none 0 0), .sl (.loc 5) 0 1 J.length none, .sl (.loc 6) 0 1 G0.length none, .int .i64 0]),(5, .deep false 1 (inD ((a.take x.1).foldl (putS (ixF (L0.length:Int) A)) J))),(9, .rows 16 (x.2.map Zl))]) 10 (fun x=>a.length-x.1) (0,[]) ⟨by simp,rfl⟩ ?_
    conv=>whnf
    refine⟨by exact GOES.cA h0,?_⟩;rintro⟨j,G⟩ ⟨hj,hG⟩;dsimp only at hj hG⊢
    have hgl:G.length<=j:=by
     have:=List.length_filter_le (fun q=>decide (ownM (ixF (L0.length:Int) A) q=[])) (a.take j);rw[List.length_take]at this;rw[hG];unfold J9;omega
    conv=>whnf
    refine IF.mk (fun h=>?_) (fun h=>?_)
    ·as_aux_lemma=>
     have hlt:j<a.length:=by simp at h;omega
     have hto:=Jp (putS (ixF (L0.length:Int) A)) J a hlt;have hgt:=W3 (ixF (L0.length:Int) A) hlt;have hI:=hins j;have hbd:=JI (f:=ixF (L0.length:Int) A) (l:=a.take j) hJb;rw[List.length_take]at hbd
     have hown:Wx J.length (ownM (ixF (L0.length:Int) A) a[j]):=fun n hn=>by
      have:=hI2 _ (List.getElem_mem hlt) n hn;omega
     generalize(a.take j).foldl (putS (ixF (L0.length:Int) A)) J=I at hto hI hbd;rw[<-hG]at hgt;have hput:=Z4N a[j] (Jk L0.length A A.length) I (L0.length+A.length) G0.length J.length hI.symm (by rw[hfA,hI];exact hown) (fun x hx=>by have:=hbd x hx;omega) (by omega);rw[hfA]at hput;conv=>whnf
     repeat'((first|(refine GET.at (row:=Zl a[j]) (Zdx hlt (by omega)) ?_;conv=>whnf)|refine AU ?_|(refine IW ?_ ?_<;>intro h<;>try(exfalso;omega)))<;>conv=>whnf)
     refine CALL.aA [3,5,7,4,6] (hput) ?_;rintro r O nx ⟨rfl,rfl,rfl⟩;conv=>whnf
     repeat'((first|refine AU ?_|(refine IW ?_ ?_<;>intro h<;>try(exfalso;omega)))<;>conv=>whnf)
     ·have he:ownM (ixF (L0.length:Int) A) a[j]=[]:=List.length_eq_zero_iff.1 (by omega);rw[if_pos he]at hgt;rw[ZbI G a[j] rfl];refine⟨(j+1,G++ [a[j]]),⟨by dsimp only;omega,hgt.symm⟩,by dsimp only;omega,?_⟩;dsimp only;rw[hto];conv=>whnf
      exact GOES.kA h0 [3,4,5,6,7,8,12]
     ·have he:¬ownM (ixF (L0.length:Int) A) a[j]=[]:=fun e=>by rw[e]at h;simp at h
      rw[if_neg he]at hgt;refine⟨(j+1,G),⟨by dsimp only;omega,hgt.symm⟩,by dsimp only;omega,?_⟩;dsimp only;rw[hto];conv=>whnf
      exact GOES.cA h0
    ·as_aux_lemma=>
     have hje:j=a.length:=by simp at h;omega
     subst hje;rw[List.take_length]at hG⊢;conv=>whnf
     repeat'((first|(refine NEED.mk (Yc 24 rfl rfl rfl (by simp[gD]) (by omega)) ?_;conv=>whnf)|refine AU ?_|(refine IW ?_ ?_<;>intro h<;>try(exfalso;omega)))<;>conv=>whnf)
     rw[ZgP G0]
     rotate_left
     ·rfl
     have hgm:G=gndM a:=hG.trans hge;rw[hri,hIL];refine⟨1,by omega,by omega,?_⟩;rw[hL1,hI1,hG1,YU,hri,hIL,List.length_append,List.length_append];conv=>whnf
     refine GOES.trans (GHO.goes (GHO.putk 11 G0.length 0 9 rfl (g_at G0) rfl rfl (by rw[List.length_map];exact Nat.le_refl _) (by decide))) ?_;rw[ZgQ,hgm];exact GOES.kA h0 [3,4,5,11]
  ·as_aux_lemma=>
   obtain⟨L0,hL0⟩:∃L0,L0=LS 1:=⟨_,rfl⟩;obtain⟨I0,hI0⟩:∃I0,I0=IS 1:=⟨_,rfl⟩;obtain⟨G0,hG0⟩:∃G0,G0=GS 1:=⟨_,rfl⟩;rw[<-hL0,<-hI0,<-hG0];conv=>whnf
   repeat'((first|(refine GET.at rfl ?_;conv=>whnf)|refine AU ?_|(refine IW ?_ ?_<;>intro h<;>try(exfalso;omega)))<;>conv=>whnf)
   have hl1:LS 1=Z0 a:=by rw[hLS];rfl
   have hL1:LS 2=L0++Z0 b:=by rw[hL0,hLS];rfl
   have hI1:IS 2=b.foldl (putS (ixF (L0.length:Int) (Z0 b))) (I0++List.replicate (Z0 b).length []):=by rw[hI0,hIS,hL0,hl1];rfl
   have hG1:GS 2=G0++ [gndM b]:=by rw[hG0,hGS];rfl
   have hIL:I0.length=L0.length:=by rw[hI0,hIS,hL0,hl1];exact XT a
   have hIb:∀m∈I0,m.length<=1048576:=by rw[hI0,hIS];exact Z7u ha
   have hLb:L0.length<=4194304:=by rw[hL0,hl1];exact Ja ha
   have hGl:G0.length<=1:=by rw[hG0,hGS];simp
   clear hL0 hI0 hG0 hLS hIS hGS hl1;have hfew:=hb.few;have hbl:=Yd b zb limb (by unfold Xf;omega) hzb;have hnd:(Z0 b).Nodup:=Ye triL (Xy triL _);have hAl:=Ja hb;have hI2:=Z2H (c:=(L0.length:Int)) (by omega) b;have hset:setL cmpL (ZD b)=Z0 b:=rfl;have hge:=Z6r (ixF (L0.length:Int) (Z0 b)) b;refine CALL.aA [2] (hbl) ?_;rintro r O nx ⟨jj,hjj,rfl,rfl,rfl⟩;have hcn:Zk [2] (7+1) 1=8:=rfl;simp only[renO,renH,ren,renB,ZQ _ (Zr _),List.cons_append,List.nil_append,hcn];rw[hset]at hjj⊢;generalize Z0 b=A at hnd hjj hAl hI2 hL1 hI1 hge⊢;have hLA:(L0++A).length=L0.length+A.length:=List.length_append;conv=>whnf
   repeat'((first|refine AU ?_|(refine IW ?_ ?_<;>intro h<;>try(exfalso;omega)))<;>conv=>whnf)
   refine LOOP.gok Z1 [3,5,6,7,15,16,17,28,29] [6,8] (X:=Nat) (fun i=>i<=A.length) (fun i=>[(30, .int .i64 (i:Int))])
    (fun i=>[(3, .box [.sl (.loc 4) 0 1 (L0.length+i) none, .val (.slice none 0 0), .sl (.loc 5) 0 1 (I0.length+i) none, .sl (.loc 6) 0 1 G0.length none, .int .i64 0]),(7, .mp (numT (Jk L0.length A i))),(4, .rows 1 (((L0++A).take (L0.length+i)).map Z3)),(5, .deep false 1 (inD (I0++List.replicate i [])))]) 9 (fun i=>A.length-i) 0 (by omega) ?_
   conv=>whnf
   refine⟨by simp only[Nat.add_zero,List.take_left,List.replicate_zero,List.append_nil];exact GOES.cA h0,?_⟩;intro i hi;have hti:((L0++A).take (L0.length+i)).length=L0.length+i:=by rw[List.length_take];omega
   have hri:(I0++List.replicate i ([]:List Sd)).length=I0.length+i:=by rw[List.length_append,List.length_replicate]
   conv=>whnf
   refine IF.mk (fun h=>?_) (fun h=>?_)
   ·as_aux_lemma=>
    have hlt:i<A.length:=by simp at h;omega
    have hs:=JW (b:=(L0.length:Int)) hlt;have hw:IntKind.i64.wrap ((L0.length:Int)+(i:Int))=(L0.length:Int)+i:=Z6 (by omega) (by omega);have hga:(L0++A)[L0.length+i]'(by omega)=A[i]:=by rw[List.getElem_append_right (by omega)];congr 1;omega
    have hap:=Z4U (L0++A) (i:=L0.length+i) (by omega);rw[hga]at hap;have hia:=ZbH (I0++List.replicate i []) hri.symm (T:=tab) (e:=141) rfl;rw[List.append_assoc,<-List.replicate_succ']at hia;conv=>whnf
    repeat'(first|(refine GET.at (row:=Z3 A[i]) (Zbr hlt (by omega)) ?_;conv=>whnf)|(refine NEED.mk ⟨KT.ok _,YK KT _ _⟩ ?_;conv=>whnf)|(rw[hw];conv=>whnf)|(refine NEED.mk (Yc 24 rfl rfl rfl (by rw[Z73,hri];exact Nat.le_refl _) (by omega)) ?_;conv=>whnf)|(refine NEED.mk (Yc 16 rfl rfl rfl (by rw[List.length_map,hti];exact Nat.le_refl _) (by omega)) ?_;conv=>whnf)|(refine AU ?_;conv=>whnf))
    rw[hia,hap]
    first|rw[Z3M,<-hs]|rw[Z2w,<-hs]
    refine⟨i+1,by omega,by omega,?_⟩;conv=>whnf
    exact GOES.kA h0 [3,10,12,6,7,8]
   ·as_aux_lemma=>
    have hie:i=A.length:=by simp at h;omega
    subst hie;rw[List.take_of_length_le (by omega)];conv=>whnf
    repeat'((first|refine AU ?_|(refine IW ?_ ?_<;>intro h<;>try(exfalso;omega)))<;>conv=>whnf)
    refine LOOP.nil 10 16 rfl ?_;have hfA:=ZbG (b:=(L0.length:Int)) hnd;obtain⟨J,hJ⟩:∃J,J=I0++List.replicate A.length ([]:List Sd):=⟨_,rfl⟩
    have hJb:∀m∈J,m.length<=1048576:=by
     rw[hJ];intro m hm;rcases List.mem_append.1 hm with h1|h1
     ·exact hIb m h1
     ·rw[List.eq_of_mem_replicate h1];simp
    rw[<-hJ]at hri hI1⊢;rw[<-hri];have hins:∀j,((b.take j).foldl (putS (ixF (L0.length:Int) A)) J).length=J.length:=fun j=>YU _ _ _
    refine LOOP.gok Z1 [3,7,15,16,17,60,61] [4,6,7] (X:=Nat×List Qd) (fun x=>x.1<=b.length/\x.2=J9 (ixF (L0.length:Int) A) (b.take x.1)) (fun x=>[(62, .int .i64 (x.1:Int)),(10, .sl (.loc 9) 0 16 x.2.length none)])
     (fun x=>[(3, .box [.sl (.loc 4) 0 1 (L0.length+A.length) none, .val (.slice none 0 0), .sl (.loc 5) 0 1 J.length none, .sl (.loc 6) 0 1 G0.length none, .int .i64 0]),(5, .deep false 1 (inD ((b.take x.1).foldl (putS (ixF (L0.length:Int) A)) J))),(9, .rows 16 (x.2.map Zl))]) 10 (fun x=>b.length-x.1) (0,[]) ⟨by simp,rfl⟩ ?_
    conv=>whnf
    refine⟨by exact GOES.cA h0,?_⟩;rintro⟨j,G⟩ ⟨hj,hG⟩;dsimp only at hj hG⊢
    have hgl:G.length<=j:=by
     have:=List.length_filter_le (fun q=>decide (ownM (ixF (L0.length:Int) A) q=[])) (b.take j);rw[List.length_take]at this;rw[hG];unfold J9;omega
    conv=>whnf
    refine IF.mk (fun h=>?_) (fun h=>?_)
    ·as_aux_lemma=>
     have hlt:j<b.length:=by simp at h;omega
     have hto:=Jp (putS (ixF (L0.length:Int) A)) J b hlt;have hgt:=W3 (ixF (L0.length:Int) A) hlt;have hI:=hins j;have hbd:=JI (f:=ixF (L0.length:Int) A) (l:=b.take j) hJb;rw[List.length_take]at hbd
     have hown:Wx J.length (ownM (ixF (L0.length:Int) A) b[j]):=fun n hn=>by
      have:=hI2 _ (List.getElem_mem hlt) n hn;omega
     generalize(b.take j).foldl (putS (ixF (L0.length:Int) A)) J=I at hto hI hbd;rw[<-hG]at hgt;have hput:=Z4N b[j] (Jk L0.length A A.length) I (L0.length+A.length) G0.length J.length hI.symm (by rw[hfA,hI];exact hown) (fun x hx=>by have:=hbd x hx;omega) (by omega);rw[hfA]at hput;conv=>whnf
     repeat'((first|(refine GET.at (row:=Zl b[j]) (Zdx hlt (by omega)) ?_;conv=>whnf)|refine AU ?_|(refine IW ?_ ?_<;>intro h<;>try(exfalso;omega)))<;>conv=>whnf)
     refine CALL.aA [3,5,7,4,6] (hput) ?_;rintro r O nx ⟨rfl,rfl,rfl⟩;conv=>whnf
     repeat'((first|refine AU ?_|(refine IW ?_ ?_<;>intro h<;>try(exfalso;omega)))<;>conv=>whnf)
     ·have he:ownM (ixF (L0.length:Int) A) b[j]=[]:=List.length_eq_zero_iff.1 (by omega);rw[if_pos he]at hgt;rw[ZbI G b[j] rfl];refine⟨(j+1,G++ [b[j]]),⟨by dsimp only;omega,hgt.symm⟩,by dsimp only;omega,?_⟩;dsimp only;rw[hto];conv=>whnf
      exact GOES.kA h0 [3,4,5,6,7,8,12]
     ·have he:¬ownM (ixF (L0.length:Int) A) b[j]=[]:=fun e=>by rw[e]at h;simp at h
      rw[if_neg he]at hgt;refine⟨(j+1,G),⟨by dsimp only;omega,hgt.symm⟩,by dsimp only;omega,?_⟩;dsimp only;rw[hto];conv=>whnf
      exact GOES.cA h0
    ·as_aux_lemma=>
     have hje:j=b.length:=by simp at h;omega
     subst hje;rw[List.take_length]at hG⊢;conv=>whnf
     repeat'((first|(refine NEED.mk (Yc 24 rfl rfl rfl (by simp[gD]) (by omega)) ?_;conv=>whnf)|refine AU ?_|(refine IW ?_ ?_<;>intro h<;>try(exfalso;omega)))<;>conv=>whnf)
     rw[ZgP G0]
     rotate_left
     ·rfl
     have hgm:G=gndM b:=hG.trans hge;rw[hri,hIL];refine⟨2,by omega,by omega,?_⟩;rw[hL1,hI1,hG1,YU,hri,hIL,List.length_append,List.length_append];conv=>whnf
     refine GOES.trans (GHO.goes (GHO.putk 11 G0.length 0 9 rfl (g_at G0) rfl rfl (by rw[List.length_map];exact Nat.le_refl _) (by decide))) ?_;rw[ZgQ,hgm];exact GOES.kA h0 [3,4,5,11]
 ·have hie:i=2:=by simp at h;omega
  subst hie;have hl2:LS 2=Z0 a++Z0 b:=by rw[hLS];rfl
  have hi2:IS 2=ins2 a b:=by rw[hIS];rfl
  have hg2:GS 2=[gndM a,gndM b]:=by rw[hGS];rfl
  rw[hl2,hi2,hg2];have h1:=Ja ha;have h2:=Ja hb;have hlen:(Z0 a++Z0 b).length=(Z0 a).length+(Z0 b).length:=List.length_append;rw[hlen];conv=>whnf
  repeat'((first|(refine NEED.mk (Z0h 8 rfl (by omega) (by omega) (by omega) (by omega)) ?_;conv=>whnf)|refine AU ?_|(refine IW ?_ ?_<;>intro h<;>try(exfalso;omega)))<;>conv=>whnf)
  generalize hn:(Z0 a).length+(Z0 b).length=n at h1 h2 hlen⊢;rw[show List.replicate (n:Int).toNat [SV.int .i64 0]=(List.replicate n 0).map Zo by rw[List.map_replicate];rfl];refine FIN.aA h0 [3,4,7,5,6] (.ptr (.loc 3) 0 0 0) [(3, .box [.sl (.loc 4) 0 1 n none, .sl (.loc 5) 0 1 n none, .sl (.loc 6) 0 1 (ins2 a b).length none, .sl (.loc 7) 0 1 2 none, .int .i64 (ct0 n)]),(4, .rows 1 ((Z0 a++Z0 b).map Z3)),(5, .rows 1 ((List.replicate n 0).map Zo)),(6, .deep false 1 (inD (ins2 a b))),(7, .deep false 1 (gD [gndM a,gndM b]))] ⟨rfl,?_,rfl⟩;unfold w2Hp;rw[hlen,List.length_replicate]
  rfl
open Tryz
theorem Z9B(n:Int):Does prog tab 79 0 [.int .i64 n] [] [] (Val (.bool (decide (n≠0)))):=by
 refine Does.enter Z1 call79 func79 rfl 5 rfl rfl [.tmp 2] rfl ?_;intro w0 F η0 h0;conv=>whnf
 repeat'((first|refine AU ?_|(refine IW ?_ ?_<;>intro h<;>try(exfalso;omega)))<;>conv=>whnf)
 exact FIN.value h0 rfl (congrArg SV.bool (by by_cases h:n=0<;>simp[h]))
theorem Z7v(l:List Int)(hl:l.length<=67108864):Does prog tab 106 1 [.sl (.loc 0) 0 1 l.length none, .fn (.func 79) [] []] [] [(0, .rows 1 (l.map Zo))] (fun r O nx=>O=[]/\nx=1/\∃k:Int,r= .int .i64 k/\(0<=k<->∃d∈l,d≠0)):=by
 refine Does.enter Z1 call106 func106 rfl 19 rfl rfl [.tmp 4] rfl ?_;intro w0 F η0 h0;conv=>whnf
 repeat'((first|refine AU ?_|(refine IW ?_ ?_<;>intro h<;>try(exfalso;omega)))<;>conv=>whnf)
 refine LOOP.go Z1 [0,1,7] (X:=Nat) (fun c=>c<=l.length/\∀d∈l.take c,d=0) (fun c=>[(8, .int .i64 (c:Int))]) (fun c=>[]) 1 (fun c=>l.length-c) 0 ⟨by omega,by simp⟩ ?_;conv=>whnf
 refine⟨by exact GOES.cA h0,?_⟩;rintro c ⟨hc,hn⟩;conv=>whnf
 refine IF.mk (fun h=>?_) (fun h=>?_)
 ·have hlt:c<l.length:=by simp at h;omega
  conv=>whnf
  repeat'((first|refine CALL.value (Z9B _) rfl rfl ?_|(refine GET.at (row:=Zo l[c]) (by rw[Int.toNat_natCast,Nat.zero_add];exact Jj hlt) ?_;conv=>whnf)|refine AU ?_|(refine IW ?_ ?_<;>intro h<;>try(exfalso;omega)))<;>conv=>whnf)
  ·have hne:l[c]≠0:=by simpa using h
   exact FIN.val h0 rfl ⟨rfl,rfl,_,rfl,⟨fun _=>⟨_,List.getElem_mem hlt,hne⟩,fun _=>by omega⟩⟩
  ·have hez:l[c]=0:=by simpa using h
   refine⟨c+1,⟨by omega,fun d hd=>?_⟩,by omega,?_⟩
   ·rw[List.take_succ_eq_append_getElem hlt]at hd;rcases List.mem_append.1 hd with hd|hd
    ·exact hn d hd
    ·rw[List.mem_singleton.1 hd];exact hez
   conv=>whnf
   exact GOES.cA h0
 ·have h:c=l.length:=by simp at h;omega
  subst h;rw[List.take_length]at hn;repeat'((first|refine AU ?_|(refine IW ?_ ?_<;>intro h<;>try(exfalso;omega)))<;>conv=>whnf)
  exact FIN.val h0 rfl ⟨rfl,rfl,_,rfl,⟨fun h=>by omega,fun⟨d,hd,hne⟩=>(hne (hn d hd)).elim⟩⟩
theorem Zc8(l:List Int)(hl:l.length<=67108864):Does prog tab 78 1 [.sl (.loc 0) 0 1 l.length none, .fn (.func 79) [] []] [] [(0, .rows 1 (l.map Zo))] (fun r O nx=>O=[]/\nx=1/\∃b,r= .bool b/\(b=true<->∃d∈l,d≠0)):=by
 have hix:=Z7v l hl;refine Does.enter Z1 call78 func78 rfl 9 rfl rfl [.tmp 4] rfl ?_;intro w0 F η0 h0;conv=>whnf
 repeat'((first|refine AU ?_|(refine IW ?_ ?_<;>intro h<;>try(exfalso;omega)))<;>conv=>whnf)
 refine CALL.aA [0] (hix) ?_;rintro r O nx ⟨rfl,rfl,k,rfl,hk⟩;conv=>whnf
 repeat'((first|refine AU ?_|(refine IW ?_ ?_<;>intro h<;>try(exfalso;omega)))<;>conv=>whnf)
 exact FIN.val h0 rfl ⟨rfl,rfl,_,rfl,by simp only[decide_eq_true_eq];exact hk⟩
theorem Zc9(C:List Int)(half nl ni ng c:Nat)(hF:C.length=2*half)(hf:∀x∈C,0<=x/\x< (c:Int))(hl:C.length<=67108864)(hc:c<=67108864):
 Does prog tab 52 5 [.ptr (.loc 0) 0 0 0] [] [(0,wBx 2 nl C.length ni ng c),(2, .rows 1 (C.map Zo))] (fun r O nx=>O=[]/\nx=5/\∃b,r= .bool b/\(b=true<->Z7s C half)):=by
 refine Does.enter Z1 call52 func52 rfl 45 rfl rfl [.tmp 2] rfl ?_;intro w0 F η0 h0;conv=>whnf
 repeat'((first|(refine NEED.mk (Z0h 8 rfl (by omega) (by omega) (by omega) (by omega)) ?_;conv=>whnf)|refine AU ?_|(refine IW ?_ ?_<;>intro h<;>try(exfalso;omega)))<;>conv=>whnf)
 have hq:IntKind.i64.wrap ((C.length:Int).tdiv 2)=(half:Int):=by rw[hF,Int.tdiv_eq_ediv_of_nonneg (by omega),Z6 (by omega) (by omega)];omega
 rw[show List.replicate (c:Int).toNat [SV.int .i64 0]=(dfL C half c 0).map Zo by rw[ZdK,List.map_replicate];rfl];refine LOOP.gok Z1 [0,3,14,15] [] (X:=Nat) (fun x=>x<=C.length) (fun x=>[(16, .int .i64 (x:Int))]) (fun x=>[(5, .rows 1 ((dfL C half c x).map Zo))]) 6 (fun x=>C.length-x) 0 (by omega) ?_;conv=>whnf
 refine⟨by exact GOES.cA h0,?_⟩;intro x hx;conv=>whnf
 refine IF.mk (fun h=>?_) (fun h=>?_)
 ·have hlt:x<C.length:=by simp at h;omega
  have hfx:=hf _ (List.getElem_mem hlt);have hgC:=Jj hlt;have hgd:((dfL C half c x).map Zo)[C[x].toNat]?=some (Zo (dfM C half x C[x].toNat)):=by rw[List.getElem?_map,ZgN (by omega)];rfl
  have hdb:=ZdL C half x C[x].toNat;conv=>whnf
  repeat'((first|(refine GET.at (row:=Zo C[x]) (by rw[Int.toNat_natCast,Nat.zero_add];exact hgC) ?_;conv=>whnf)|(refine GET.at (row:=Zo (dfM C half x C[x].toNat)) (by rw[Nat.zero_add];exact hgd) ?_;conv=>whnf)|refine AU ?_|(refine IW ?_ ?_<;>intro h<;>try(exfalso;omega)))<;>conv=>whnf)
  all_goals rw[hq]at h
  ·have hst:((dfL C half c x).map Zo).set (0+C[x].toNat) [SV.int .i64 (IntKind.i64.wrap (dfM C half x C[x].toNat+1))]=(dfL C half c (x+1)).map Zo:=by rw[Z0Q (x:=C[x].toNat) (by omega),Zc6 hlt hfx (by rw[if_pos (by omega),Z6 (by omega) (by omega)])]
   rw[hst];refine⟨x+1,by omega,by omega,?_⟩;conv=>whnf
   exact GOES.cA h0
  ·have hst:((dfL C half c x).map Zo).set (0+C[x].toNat) [SV.int .i64 (IntKind.i64.wrap (dfM C half x C[x].toNat-1))]=(dfL C half c (x+1)).map Zo:=by rw[Z0Q (x:=C[x].toNat) (by omega),Zc6 hlt hfx (by rw[if_neg (by omega),Z6 (by omega) (by omega)];omega)]
   rw[hst];refine⟨x+1,by omega,by omega,?_⟩;conv=>whnf
   exact GOES.cA h0
 ·have hxe:x=C.length:=by simp at h;omega
  subst hxe;have hany:=Zc8 (dfL C half c C.length) (by rw[Zc4];omega);rw[Zc4]at hany;conv=>whnf
  repeat'((first|refine AU ?_|(refine IW ?_ ?_<;>intro h<;>try(exfalso;omega)))<;>conv=>whnf)
  refine CALL.aA [5] (hany) ?_;rintro r O nx ⟨rfl,rfl,b,rfl,hb⟩;conv=>whnf
  repeat'((first|refine AU ?_|(refine IW ?_ ?_<;>intro h<;>try(exfalso;omega)))<;>conv=>whnf)
  refine FIN.val h0 rfl ⟨rfl,rfl,_,rfl,?_⟩;rw[<-ZdM hf];constructor
  ·intro h1 d hd;refine Decidable.byContradiction fun hne=>?_;rw[hb.2 ⟨d,hd,hne⟩]at h1;cases h1
  ·intro h1;cases b with
   |false=>rfl
   |true=>obtain⟨d,hd,hne⟩:=hb.1 rfl;exact(hne (h1 d hd)).elim
def eQ(f t:LB):Qd:=⟨⟨2,f,[],[]⟩,⟨1,[112,58],[],[]⟩,⟨2,t,[],[]⟩,Y6⟩
abbrev wA:List Qd:=[eQ [97] [98]]
abbrev wX:List Qd:=[eQ [120] [121]]
abbrev wL:List Qd:=[eQ [97] [98],eQ [98] [97]]
abbrev wY:List Qd:=[eQ [120] [120],eQ [121] [121]]
abbrev wC:List Qd:=[eQ [97] [98],eQ [98] [99]]
theorem w_of{l:List Qd}(h1:(l.zip l.tail).all (fun x=>decide (ZH x.1 x.2<0))=true)(h2:(l.all fun q=>decide (X5 q=0))=true)(h3:l.length<=1048576):(XD l).2=0:=by
 rw[List.all_eq_true]at h2;have hr:=Z6b l h1;have hc:∀q∈l,X5 q=0:=fun q hq=>by simpa using h2 q hq
 have b1:∀(n i:Nat),l.length-i<=n->badM l i=none:=by
  intro n
  induction n with
  |zero=>intro i hi;exact Z07 (by omega)
  |succ n ih=>
   intro i hi;by_cases hl:i<l.length
   ·rw[Z60 hl,if_neg (by rw[hc _ (List.getElem_mem hl)];simp)];exact ih _ (by omega)
   ·exact Z07 (by omega)
 have b2:∀(n i:Nat),l.length-i<=n->1<=i->Z08 l i=none:=by
  intro n
  induction n with
  |zero=>intro i hi _;exact WB (by omega)
  |succ n ih=>
   intro i hi h1;by_cases hl:i<l.length
   ·have:=Z86 hr (i:=i-1) (j:=i) (by omega) hl;rw[Z4z hl,if_neg (by omega)];exact ih _ (by omega) (by omega)
   ·exact WB (by omega)
 unfold XD;rw[if_neg (by omega),b1 _ 0 (Nat.le_refl _),b2 _ 1 (Nat.le_refl _) (Nat.le_refl _)]
theorem w_vA:X6 wA wX=0:=by
 unfold X6;rw[w_of (l:=wA) (by decide+kernel) (by decide+kernel) (by decide),w_of (l:=wX) (by decide+kernel) (by decide+kernel) (by decide)];rfl
theorem w_vL:X6 wL wY=0:=by
 unfold X6;rw[w_of (l:=wL) (by decide+kernel) (by decide+kernel) (by decide),w_of (l:=wY) (by decide+kernel) (by decide+kernel) (by decide)];rfl
theorem w_l{l:List Qd}{m:List LB}(h1:m.Pairwise fun a b=>cmpL a b<0)(h2:(ZD l).all (fun x=>decide (x∈m))=true)(h3:m.all (fun x=>decide (x∈ZD l))=true):Z0 l=m:=by
 refine(ZaG triL h1 fun x=>⟨fun h=>?_,fun h=>?_⟩).symm
 ·rw[List.all_eq_true]at h3;simpa using h3 x h
 ·rw[List.all_eq_true]at h2;simpa using h2 x h
theorem w_lA:Z0 wA=[[97],[98]]:=w_l (by decide+kernel) (by decide+kernel) (by decide+kernel)
theorem w_lX:Z0 wX=[[120],[121]]:=w_l (by decide+kernel) (by decide+kernel) (by decide+kernel)
theorem w_lL:Z0 wL=[[97],[98]]:=w_l (by decide+kernel) (by decide+kernel) (by decide+kernel)
theorem w_lY:Z0 wY=[[120],[121]]:=w_l (by decide+kernel) (by decide+kernel) (by decide+kernel)
theorem w_lC:Z0 wC=[[97],[98],[99]]:=w_l (by decide+kernel) (by decide+kernel) (by decide+kernel)
def ZE(a b:List Qd)(A B:List LB):List (List Sd):=b.foldl (putS (ixF A.length B)) (a.foldl (putS (ixF 0 A)) (List.replicate A.length [])++List.replicate B.length [])
theorem w_iA:ins2 wA wX=ZE wA wX [[97],[98]] [[120],[121]]:=by unfold ins2 ZK;rw[w_lA,w_lX];rfl
theorem w_iL:ins2 wL wY=ZE wL wY [[97],[98]] [[120],[121]]:=by unfold ins2 ZK;rw[w_lL,w_lY];rfl
theorem w_iC:ZK wC=ZE wC [] [[97],[98],[99]] []:=by unfold ZK;rw[w_lC];exact(List.append_nil _).symm
theorem ZgU:Z3U wA wX:=⟨rfl,by rw[w_lA,w_lX];rfl,by decide+kernel⟩
theorem Zhp:Z3U wL wY:=⟨rfl,by rw[w_lL,w_lY];rfl,by decide+kernel⟩
theorem w_n2{a b:LB}(h:a≠b):Zx [a,b,a,b]=[a,b]/\YS [a,b,a,b]=[0,1,0,1]:=by
 have hf:Zx [a,b,a,b]=[a,b]:=by simp[Zx,h,Ne.symm h]
 refine⟨hf,?_⟩;have hb:(a==b)=false:=by simpa using h
 unfold YS;rw[hf];simp[List.idxOf_cons,hb]
theorem w_n3{a b:LB}(h:a≠b):Zx [a,a,b,b]=[a,b]/\YS [a,a,b,b]=[0,0,1,1]:=by
 have hf:Zx [a,a,b,b]=[a,b]:=by simp[Zx,h,Ne.symm h]
 refine⟨hf,?_⟩;have hb:(a==b)=false:=by simpa using h
 unfold YS;rw[hf];simp[List.idxOf_cons,hb]
theorem w_n4{a b c:LB}(h:a≠b)(h1:a≠c)(h2:b≠c):Zx [a,b,c]=[a,b,c]/\YS [a,b,c]=[0,1,2]:=by
 have hf:Zx [a,b,c]=[a,b,c]:=by simp[Zx,h,Ne.symm h,Ne.symm h1,Ne.symm h2]
 refine⟨hf,?_⟩;have hb:(a==b)=false:=by simpa using h
 have hb1:(a==c)=false:=by simpa using h1
 have hb2:(b==c)=false:=by simpa using h2
 unfold YS;rw[hf];simp[List.idxOf_cons,hb,hb1,hb2]
theorem w_k{cl:List Int}{I:List (List Sd)}{x y:Nat}(hc:∀c∈cl,0<=c)(h:cl.getD x 0=cl.getD y 0/\(Yg cl I x).isPerm (Yg cl I y)=true):keyM cl I x=keyM cl I y:=(Z7n hc I x y).2 ⟨h.1,List.isPerm_iff.1 h.2⟩
theorem w_nk{cl:List Int}{I:List (List Sd)}{x y:Nat}(hc:∀c∈cl,0<=c)(h:¬(cl.getD x 0=cl.getD y 0/\(Yg cl I x).isPerm (Yg cl I y)=true)):keyM cl I x≠keyM cl I y:=fun e=>by
 obtain⟨h1,h2⟩:=(Z7n hc I x y).1 e;exact h ⟨h1,List.isPerm_iff.2 h2⟩
theorem w_kA0:(Zx (Yf [0,0,0,0] (ins2 wA wX))).length=2/\YS (Yf [0,0,0,0] (ins2 wA wX))=[0,1,0,1]:=by
 rw[w_iA];have hc:∀c∈([0,0,0,0]:List Int),0<=c:=by decide
 have e2:keyM [0,0,0,0] (ZE wA wX [[97],[98]] [[120],[121]]) 2=keyM [0,0,0,0] (ZE wA wX [[97],[98]] [[120],[121]]) 0:=w_k hc (by decide+kernel);have e3:keyM [0,0,0,0] (ZE wA wX [[97],[98]] [[120],[121]]) 3=keyM [0,0,0,0] (ZE wA wX [[97],[98]] [[120],[121]]) 1:=w_k hc (by decide+kernel);have n0:keyM [0,0,0,0] (ZE wA wX [[97],[98]] [[120],[121]]) 0≠keyM [0,0,0,0] (ZE wA wX [[97],[98]] [[120],[121]]) 1:=w_nk hc (by decide+kernel);have hk:Yf [0,0,0,0] (ZE wA wX [[97],[98]] [[120],[121]])=[keyM [0,0,0,0] (ZE wA wX [[97],[98]] [[120],[121]]) 0,keyM [0,0,0,0] (ZE wA wX [[97],[98]] [[120],[121]]) 1,keyM [0,0,0,0] (ZE wA wX [[97],[98]] [[120],[121]]) 2,keyM [0,0,0,0] (ZE wA wX [[97],[98]] [[120],[121]]) 3]:=rfl;rw[hk,e2,e3];obtain⟨h1,h2⟩:=w_n2 n0;exact⟨by rw[h1];rfl,h2⟩
theorem w_kA1:(Zx (Yf [0,1,0,1] (ins2 wA wX))).length=2/\YS (Yf [0,1,0,1] (ins2 wA wX))=[0,1,0,1]:=by
 rw[w_iA];have hc:∀c∈([0,1,0,1]:List Int),0<=c:=by decide
 have e2:keyM [0,1,0,1] (ZE wA wX [[97],[98]] [[120],[121]]) 2=keyM [0,1,0,1] (ZE wA wX [[97],[98]] [[120],[121]]) 0:=w_k hc (by decide+kernel);have e3:keyM [0,1,0,1] (ZE wA wX [[97],[98]] [[120],[121]]) 3=keyM [0,1,0,1] (ZE wA wX [[97],[98]] [[120],[121]]) 1:=w_k hc (by decide+kernel);have n0:keyM [0,1,0,1] (ZE wA wX [[97],[98]] [[120],[121]]) 0≠keyM [0,1,0,1] (ZE wA wX [[97],[98]] [[120],[121]]) 1:=w_nk hc (by decide+kernel);have hk:Yf [0,1,0,1] (ZE wA wX [[97],[98]] [[120],[121]])=[keyM [0,1,0,1] (ZE wA wX [[97],[98]] [[120],[121]]) 0,keyM [0,1,0,1] (ZE wA wX [[97],[98]] [[120],[121]]) 1,keyM [0,1,0,1] (ZE wA wX [[97],[98]] [[120],[121]]) 2,keyM [0,1,0,1] (ZE wA wX [[97],[98]] [[120],[121]]) 3]:=rfl;rw[hk,e2,e3];obtain⟨h1,h2⟩:=w_n2 n0;exact⟨by rw[h1];rfl,h2⟩
theorem w_kL0:(Zx (Yf [0,0,0,0] (ins2 wL wY))).length=2/\YS (Yf [0,0,0,0] (ins2 wL wY))=[0,0,1,1]:=by
 rw[w_iL];have hc:∀c∈([0,0,0,0]:List Int),0<=c:=by decide
 have e1:keyM [0,0,0,0] (ZE wL wY [[97],[98]] [[120],[121]]) 1=keyM [0,0,0,0] (ZE wL wY [[97],[98]] [[120],[121]]) 0:=w_k hc (by decide+kernel);have e3:keyM [0,0,0,0] (ZE wL wY [[97],[98]] [[120],[121]]) 3=keyM [0,0,0,0] (ZE wL wY [[97],[98]] [[120],[121]]) 2:=w_k hc (by decide+kernel);have n0:keyM [0,0,0,0] (ZE wL wY [[97],[98]] [[120],[121]]) 0≠keyM [0,0,0,0] (ZE wL wY [[97],[98]] [[120],[121]]) 2:=w_nk hc (by decide+kernel);have hk:Yf [0,0,0,0] (ZE wL wY [[97],[98]] [[120],[121]])=[keyM [0,0,0,0] (ZE wL wY [[97],[98]] [[120],[121]]) 0,keyM [0,0,0,0] (ZE wL wY [[97],[98]] [[120],[121]]) 1,keyM [0,0,0,0] (ZE wL wY [[97],[98]] [[120],[121]]) 2,keyM [0,0,0,0] (ZE wL wY [[97],[98]] [[120],[121]]) 3]:=rfl;rw[hk,e1,e3];obtain⟨h1,h2⟩:=w_n3 n0;exact⟨by rw[h1];rfl,h2⟩
theorem w_kL1:(Zx (Yf [0,0,1,1] (ins2 wL wY))).length=2/\YS (Yf [0,0,1,1] (ins2 wL wY))=[0,0,1,1]:=by
 rw[w_iL];have hc:∀c∈([0,0,1,1]:List Int),0<=c:=by decide
 have e1:keyM [0,0,1,1] (ZE wL wY [[97],[98]] [[120],[121]]) 1=keyM [0,0,1,1] (ZE wL wY [[97],[98]] [[120],[121]]) 0:=w_k hc (by decide+kernel);have e3:keyM [0,0,1,1] (ZE wL wY [[97],[98]] [[120],[121]]) 3=keyM [0,0,1,1] (ZE wL wY [[97],[98]] [[120],[121]]) 2:=w_k hc (by decide+kernel);have n0:keyM [0,0,1,1] (ZE wL wY [[97],[98]] [[120],[121]]) 0≠keyM [0,0,1,1] (ZE wL wY [[97],[98]] [[120],[121]]) 2:=w_nk hc (by decide+kernel);have hk:Yf [0,0,1,1] (ZE wL wY [[97],[98]] [[120],[121]])=[keyM [0,0,1,1] (ZE wL wY [[97],[98]] [[120],[121]]) 0,keyM [0,0,1,1] (ZE wL wY [[97],[98]] [[120],[121]]) 1,keyM [0,0,1,1] (ZE wL wY [[97],[98]] [[120],[121]]) 2,keyM [0,0,1,1] (ZE wL wY [[97],[98]] [[120],[121]]) 3]:=rfl;rw[hk,e1,e3];obtain⟨h1,h2⟩:=w_n3 n0;exact⟨by rw[h1];rfl,h2⟩
theorem w_kC0:(Zx (Yf [0,0,0] (ZK wC))).length=3/\YS (Yf [0,0,0] (ZK wC))=[0,1,2]:=by
 rw[w_iC];have hc:∀c∈([0,0,0]:List Int),0<=c:=by decide
 have n0:keyM [0,0,0] (ZE wC [] [[97],[98],[99]] []) 0≠keyM [0,0,0] (ZE wC [] [[97],[98],[99]] []) 1:=w_nk hc (by decide+kernel);have n1:keyM [0,0,0] (ZE wC [] [[97],[98],[99]] []) 0≠keyM [0,0,0] (ZE wC [] [[97],[98],[99]] []) 2:=w_nk hc (by decide+kernel);have n2:keyM [0,0,0] (ZE wC [] [[97],[98],[99]] []) 1≠keyM [0,0,0] (ZE wC [] [[97],[98],[99]] []) 2:=w_nk hc (by decide+kernel);have hk:Yf [0,0,0] (ZE wC [] [[97],[98],[99]] [])=[keyM [0,0,0] (ZE wC [] [[97],[98],[99]] []) 0,keyM [0,0,0] (ZE wC [] [[97],[98],[99]] []) 1,keyM [0,0,0] (ZE wC [] [[97],[98],[99]] []) 2]:=rfl;rw[hk];obtain⟨h1,h2⟩:=w_n4 n0 n1 n2;exact⟨by rw[h1];rfl,h2⟩
theorem w_kC1:(Zx (Yf [0,1,2] (ZK wC))).length=3/\YS (Yf [0,1,2] (ZK wC))=[0,1,2]:=by
 rw[w_iC];have hc:∀c∈([0,1,2]:List Int),0<=c:=by decide
 have n0:keyM [0,1,2] (ZE wC [] [[97],[98],[99]] []) 0≠keyM [0,1,2] (ZE wC [] [[97],[98],[99]] []) 1:=w_nk hc (by decide+kernel);have n1:keyM [0,1,2] (ZE wC [] [[97],[98],[99]] []) 0≠keyM [0,1,2] (ZE wC [] [[97],[98],[99]] []) 2:=w_nk hc (by decide+kernel);have n2:keyM [0,1,2] (ZE wC [] [[97],[98],[99]] []) 1≠keyM [0,1,2] (ZE wC [] [[97],[98],[99]] []) 2:=w_nk hc (by decide+kernel);have hk:Yf [0,1,2] (ZE wC [] [[97],[98],[99]] [])=[keyM [0,1,2] (ZE wC [] [[97],[98],[99]] []) 0,keyM [0,1,2] (ZE wC [] [[97],[98],[99]] []) 1,keyM [0,1,2] (ZE wC [] [[97],[98],[99]] []) 2]:=rfl;rw[hk];obtain⟨h1,h2⟩:=w_n4 n0 n1 n2;exact⟨by rw[h1];rfl,h2⟩
theorem w_sA:Settles (ins2 wA wX) (List.replicate ((Z0 wA).length+(Z0 wX).length) 0) (ct0 ((Z0 wA).length+(Z0 wX).length)) [0,1,0,1] 2:=by
 rw[w_lA,w_lX];refine Settles.go (cl:=[0,0,0,0]) (by rw[w_kA0.1];decide) ?_;rw[w_kA0.2,w_kA0.1];have:=Settles.stop (ins:=ins2 wA wX) (cl:=[0,1,0,1]) (ct:=2) (by rw[w_kA1.1];decide);rwa [w_kA1.2,w_kA1.1]at this
theorem w_sL:Settles (ins2 wL wY) (List.replicate ((Z0 wL).length+(Z0 wY).length) 0) (ct0 ((Z0 wL).length+(Z0 wY).length)) [0,0,1,1] 2:=by
 rw[w_lL,w_lY];refine Settles.go (cl:=[0,0,0,0]) (by rw[w_kL0.1];decide) ?_;rw[w_kL0.2,w_kL0.1];have:=Settles.stop (ins:=ins2 wL wY) (cl:=[0,0,1,1]) (ct:=2) (by rw[w_kL1.1];decide);rwa [w_kL1.2,w_kL1.1]at this
theorem w_sC:Settles (ZK wC) (List.replicate (Z0 wC).length 0) (if((Z0 wC).length:Int)<1 then((Z0 wC).length:Int)else 1) [0,1,2] 3:=by
 rw[w_lC];refine Settles.go (cl:=[0,0,0]) (by rw[w_kC0.1];decide) ?_;rw[w_kC0.2,w_kC0.1];have:=Settles.stop (ins:=ZK wC) (cl:=[0,1,2]) (ct:=3) (by rw[w_kC1.1];decide);rwa [w_kC1.2,w_kC1.1]at this
theorem ZgV:setL ZH wC=wC:=ZcW triQ (Z6b _ (by decide+kernel))
def outN:Out->Nat×List Nat
 | .found zs _=>(0,zs)
 | .none _=>(1,[])
 | .over=>(2,[])
theorem w_ev:Z7s [0,1,0,1] (Z0 wA).length:=by
 rw[w_lA];exact fun k=>rfl
theorem ZgW{n:Int}{zs:List Nat}(h:outN (Xi (Z0 wA).length (okM [0,1,0,1] (Z0 wA).length) (fitM (Z0 wA++Z0 wX) (Z0 wA).length wX (ins2 wA wX)) (Z0 wA).length [] (leftM n))=(0,zs)):FindIs wA wX n (prsM (Z0 wA) (Z0 wX) zs) 0:=by
 refine .inr (.inr ⟨w_vA,ZgU,_,_,w_sA,?_⟩);unfold Z7t;rw[if_pos w_ev];cases hr:Xi (Z0 wA).length (okM [0,1,0,1] (Z0 wA).length) (fitM (Z0 wA++Z0 wX) (Z0 wA).length wX (ins2 wA wX)) (Z0 wA).length [] (leftM n)with
 |found ys left=>rw[hr]at h;injection h with _ h;subst h;rfl
 |none left=>rw[hr]at h;injection h with h;cases h
 |over=>rw[hr]at h;injection h with h;cases h
theorem ZgX{n:Int}(h:outN (Xi (Z0 wA).length (okM [0,1,0,1] (Z0 wA).length) (fitM (Z0 wA++Z0 wX) (Z0 wA).length wX (ins2 wA wX)) (Z0 wA).length [] (leftM n))=(2,[])):FindIs wA wX n [] 4:=by
 refine .inr (.inr ⟨w_vA,ZgU,_,_,w_sA,?_⟩);unfold Z7t;rw[if_pos w_ev];cases hr:Xi (Z0 wA).length (okM [0,1,0,1] (Z0 wA).length) (fitM (Z0 wA++Z0 wX) (Z0 wA).length wX (ins2 wA wX)) (Z0 wA).length [] (leftM n)with
 |found ys left=>rw[hr]at h;injection h with h;cases h
 |none left=>rw[hr]at h;injection h with h;cases h
 |over=>rfl
theorem w_F2:FindIs wA wX 2 [([97],[120]),([98],[121])] 0:=by
 have e:prsM (Z0 wA) (Z0 wX) [0,1]=[([97],[120]),([98],[121])]:=by rw[w_lA,w_lX];rfl
 rw[<-e];exact ZgW (by rw[w_iA,w_lA,w_lX];decide+kernel)
theorem w_F1:FindIs wA wX 1 [] 4:=ZgX (by rw[w_iA,w_lA,w_lX];decide+kernel)
theorem w_F9:FindIs wL wY 9 [] 140:=by
 refine .inr (.inr ⟨w_vL,Zhp,_,_,w_sL,?_⟩);unfold Z7t;rw[if_neg];intro h;have:=h 0;rw[w_lL]at this;exact absurd this (by decide)
end Go.Proofs.YtbfbokdccdagkaaGreatDoor
