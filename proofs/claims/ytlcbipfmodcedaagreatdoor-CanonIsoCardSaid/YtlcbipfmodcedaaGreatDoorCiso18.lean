/- Part 18: IsoSight, IsoJoin, IsoSplit, IsoCls. Conditions: as each part says. -/
import Derived.Lib.ItoaLen
import Derived.Test.YtlcbipfmodcedaaGreatDoorCiso16
import Derived.Test.YtlcbipfmodcedaaGreatDoorCiso17
set_option linter.unusedVariables false
set_option linter.unusedSimpArgs false
set_option maxRecDepth 20000
set_option maxHeartbeats 8000000
namespace Go.Proofs.YtlcbipfmodcedaaGreatDoor
open Go.Sx Go.Our Go.Lib
open _root_.Go.Proofs.Tryz
def U0:uJ:=(ZI [(0,1),(1,1),(2,1),(4,1),(5,1),(6,1),(3,2),(7,2),(8,1),(9,2),(10,3),(11,1),(12,0)])
def ZdQ:Go.Shelf.Ren:=⟨fun|243=>77|246=>115|283=>152|284=>153|285=>154|286=>155|129=>151|317=>200|318=>201|319=>202|320=>203|337=>248|338=>249|n=>n,fun|3=>3|9=>9|2=>2|4=>4|171=>215|0=>0|53=>162|37=>52|5=>5|173=>217|212=>257|51=>157|20=>20|213=>258|46=>177|232=>57|233=>323|n=>n,fun|17=>2|18=>4|19=>5|n=>n⟩
theorem Zla:Go.Proofs.LaysM.n243 prog ZdQ where
 mixed:=by kernel_rfl
 f129:=func151.trans (zf some (by kernel_rfl))
 f243:=func77.trans (zf some (by kernel_rfl))
 f246:=func115.trans (zf some (by kernel_rfl))
 f283:=func152.trans (zf some (by kernel_rfl))
 f284:=func153.trans (zf some (by kernel_rfl))
 f285:=func154.trans (zf some (by kernel_rfl))
 f286:=func155.trans (zf some (by kernel_rfl))
 f317:=func200.trans (zf some (by kernel_rfl))
 f318:=func201.trans (zf some (by kernel_rfl))
 f319:=func202.trans (zf some (by kernel_rfl))
 f320:=func203.trans (zf some (by kernel_rfl))
 f337:=func248.trans (zf some (by kernel_rfl))
 f338:=func249.trans (zf some (by kernel_rfl))
 t0:=underlying0
 a0:=isAgg0
 z0:=sizeOf0
 v0:=zeroValue0
 t2:=underlying2
 a2:=isAgg2
 z2:=sizeOf2
 v2:=zeroValue2
 t3:=underlying3
 a3:=isAgg3
 z3:=sizeOf3
 v3:=zeroValue3
 t4:=underlying4
 a4:=isAgg4
 z4:=sizeOf4
 v4:=zeroValue4
 t5:=underlying5
 a5:=isAgg5
 z5:=sizeOf5
 v5:=zeroValue5
 t9:=underlying9
 a9:=isAgg9
 z9:=sizeOf9
 v9:=zeroValue9
 t20:=underlying20
 a20:=isAgg20
 z20:=sizeOf20
 v20:=zeroValue20
 t37:=underlying52
 a37:=isAgg52
 z37:=sizeOf52
 v37:=zeroValue52
 t46:=underlying177
 a46:=isAgg177
 z46:=sizeOf177
 v46:=zeroValue177
 t51:=underlying157
 a51:=isAgg157
 z51:=sizeOf157
 v51:=zeroValue157
 t53:=underlying162
 a53:=isAgg162
 z53:=sizeOf162
 v53:=zeroValue162
 t171:=underlying215
 a171:=isAgg215
 z171:=sizeOf215
 v171:=zeroValue215
 t173:=underlying217
 a173:=isAgg217
 z173:=sizeOf217
 v173:=zeroValue217
 t212:=underlying257
 a212:=isAgg257
 z212:=sizeOf257
 v212:=zeroValue257
 t213:=underlying258
 a213:=isAgg258
 z213:=sizeOf258
 t232:=underlying57
 a232:=isAgg57
 z232:=sizeOf57
 v232:=zeroValue57
 t233:=underlying323
 a233:=isAgg323
 z233:=sizeOf323
 v233:=zeroValue323
 g17:=by kernel_rfl
 g18:=by kernel_rfl
 g19:=by kernel_rfl
 i0:=by kernel_rfl
 i2:=by kernel_rfl
 i3:=by kernel_rfl
 i4:=by kernel_rfl
 i5:=by kernel_rfl
 i9:=by kernel_rfl
 i20:=by kernel_rfl
 i37:=by kernel_rfl
 i46:=by kernel_rfl
 i51:=by kernel_rfl
 i53:=by kernel_rfl
 i171:=by kernel_rfl
 i173:=by kernel_rfl
 i212:=by kernel_rfl
 i232:=by kernel_rfl
 i233:=by kernel_rfl
 m17:=by kernel_rfl
 m18:=by kernel_rfl
 m19:=by kernel_rfl
def eu(n:Int):Prop:= -9223372036854775808<=n/\n<=9223372036854775807
theorem Zbw(n:Int)(h:eu n):vW prog uv 77 0 [.int .i64 n] [] [] (wF (.str (itoa n))):=
 ZdP Zla call77 (g:=2) (by kernel_rfl) (by kernel_rfl) n h.1 h.2
theorem Zz(n:Int)(h:eu n):vW prog uv 38 0 [.int .i64 n] [] [] (wF (.str (itoa n))):=by
 refine vW.enter Z3 call38 func38 rfl 5 rfl rfl [.tmp 2] rfl ?_;intro w0 F η0 h0;conv=>whnf
 repeat'(first|refine CALL.value (Zbw n h) rfl rfl ?_)<;>conv=>whnf
 exact u9.value h0 rfl rfl
theorem ZM{n:Int}(h:eu n):(itoa n).length<=21:=itoa_length_le n h.1 h.2
def lD(c nl nc ni ng:Nat)(count:Int):Hp:= .box [.sl (.loc 1) 0 1 nl none, .sl (.loc c) 0 1 nc none, .sl (.loc 3) 0 1 ni none, .sl (.loc 4) 0 1 ng none, .int .i64 count]
def jN(N:Nat)(t:Tm):Prop:=t.t.length+t.y.length+t.l.length<=N/\eu t.k
structure nK(N nc:Nat)(s:Sd):Prop where
 ts:jN N s.q.s
 tp:jN N s.q.p
 to:jN N s.q.o
 tg:jN N s.q.g
 a: -1<=s.a/\s.a< (nc:Int)
 b: -1<=s.b/\s.b< (nc:Int)
 c: -1<=s.c/\s.c< (nc:Int)
 d: -1<=s.d/\s.d< (nc:Int)
def ia(cl:List Int)(x:Nat)(s:Sd):List Seen:=[q9 cl x s.a s.q.s,q9 cl x s.b s.q.p,q9 cl x s.c s.q.o,q9 cl x s.d s.q.g]
def kT(cl:List Int)(x:Nat)(s:Sd)(k:Nat):LB:=(((ia cl x s).take k).map Vt).flatten
theorem LZ(cl:List Int)(x:Nat)(s:Sd):kT cl x s 4=Xm (aq cl x s):=by
 unfold kT ia Xm aq;simp
theorem Bw{s:LB}{N:Nat}(h:s.length<=N)(hN:N<=1099511627776):(oO s).length<=N+23:=by
 unfold oO;have:=ZM (n:=(s.length:Int)) ⟨by omega,by omega⟩;simp only[List.length_cons,ze];omega
theorem HO{cl:List Int}{x:Nat}{n:Int}{t:Tm}{N:Nat}(ht:jN N t)(hN:N<=1099511627776)(hc:∀c∈cl,0<=c/\c<4611686018427387904):(Vt (q9 cl x n t)).length<=N+91:=by
 obtain⟨h1,h2⟩:=ht;have a:=Bw (s:=t.t) (N:=t.t.length) (zn _) (by omega);have b:=Bw (s:=t.y) (N:=t.y.length) (zn _) (by omega);have c:=Bw (s:=t.l) (N:=t.l.length) (zn _) (by omega);have d:=ZM h2;unfold q9 Vt;split
 .simp only[x6,xm,Int.lt_irrefl];unfold Qm;simp only[ze,List.length_singleton];omega
 .split
  simp
  .have hg:0<=cl.getD n.toNat 0/\cl.getD n.toNat 0<4611686018427387904:=by
    rw[zi];cases e:cl[n.toNat]? with
    |none=>simp
    |some c=>exact hc c (y8 e)
   have:=ZM (n:=1+cl.getD n.toNat 0-1) ⟨by omega,by omega⟩;simp only[x6,xm];rw[z8 (show 0<1+cl.getD n.toNat 0 by omega)];simp only[ze,List.length_cons,List.length_nil];omega
theorem Gk{cl:List Int}{x:Nat}{s:Sd}{N:Nat}(hs:nK N cl.length s)(hN:N<=1099511627776)(hc:∀c∈cl,0<=c/\c<4611686018427387904){k:Nat}(hk:k<=4):(kT cl x s k).length<=4*(N+91):=by
 have h1:=HO (x:=x) (n:=s.a) hs.ts hN hc;have h2:=HO (x:=x) (n:=s.b) hs.tp hN hc;have h3:=HO (x:=x) (n:=s.c) hs.to hN hc;have h4:=HO (x:=x) (n:=s.d) hs.tg hN hc;have hk:k=0\/k=1\/k=2\/k=3\/k=4:=by omega
 rcases hk with rfl|rfl|rfl|rfl|rfl<;>simp[kT,ia]<;>omega
theorem HP{cl:List Int}{x:Nat}{n:Int}{t:Tm}(h:n=(x:Int)):Vt (q9 cl x n t)=[64]++ [32]:=by
 unfold q9;rw[z6 (by omega),z8 h];rfl
theorem HQ{cl:List Int}{x:Nat}{n:Int}{t:Tm}(hc:∀c∈cl,0<=c/\c<4611686018427387904)(h:¬n=(x:Int))(h2:0<=n)(hn:n.toNat<cl.length):Vt (q9 cl x n t)=([35]++itoa cl[n.toNat])++ [32]:=by
 have h3:=(hc _ (zq hn)).1;unfold q9;rw[z6 (by omega),z6 h];unfold Vt;simp only[x6,xm];rw[zi,z1 hn,Option.getD_some,z8 (by omega),show 1+cl[n.toNat]-1=cl[n.toNat]by omega]
 rfl
def Zn(s:LB):LB:=(([61]++itoa (s.length:Int))++ [58])++s
theorem HR{cl:List Int}{x:Nat}{n:Int}{t:Tm}{out:LB}(h:n<0):out++Vt (q9 cl x n t)=((((out++Zn t.t)++Zn t.y)++Zn t.l)++itoa t.k)++ [32]:=by
 unfold q9;rw[z8 h];unfold Vt Qm oO Zn;simp
theorem YP{s:LB}{N:Nat}(h:s.length<=N)(hN:N<=1099511627776):(Zn s).length<=s.length+23:=by
 unfold Zn;have:=ZM (n:=(s.length:Int)) ⟨by omega,by omega⟩;simp only[List.length_cons,ze,List.length_nil];omega
theorem Zbx(cl:List Int)(x:Nat)(s:Sd)(N:Nat)(hs:nK N cl.length s)(hN:N<=1099511627776)(hc:∀c∈cl,0<=c/\c<4611686018427387904)(fL:cl.length<=4611686018427387904)(nl ni ng:Nat)(ct:Int):
 vW prog uv 132 5 [.ptr (.loc 0) 0 0 0, .int .i64 (x:Int), .agg (Us s)] [] [(0,lD 2 nl cl.length ni ng ct),(2, .rows 1 (cl.map Z8))] (qd 5 (.str (Xm (aq cl x s)))):=by
 refine vW.enter Z3 call132 func132 rfl 71 rfl rfl [.tmp 6] rfl ?_;intro w0 F η0 h0;conv=>whnf
 skip
 refine ua.j5 Z3 [0,1,5,7,13] [5] (X:=Nat) (fun k=>k<=4) (fun k=>[(14, .int .i64 (k:Int))]) (fun k=>[(6, .kH TB TU (kT cl x s k))]) 7 (fun k=>4-k) 0 (by omega) ?_;conv=>whnf
 refine⟨by exact vY.cA h0,?_⟩;rintro k cq;conv=>whnf
 refine IF.mk (fun h=>?_) (fun h=>?_)
 .have hlt:k<4:=by simp at h;omega
  have hkk:k=0\/k=1\/k=2\/k=3:=by omega
  rcases hkk with rfl|rfl|rfl|rfl
  .have hst:kT cl x s 1=kT cl x s 0++Vt (q9 cl x s.a s.q.s):=by simp[kT,ia]
   have cU:=Gk (x:=x) hs hN hc (k:=0) (by omega);obtain⟨hn0,cW⟩:=hs.a;obtain⟨lE,ht1⟩:=hs.ts;generalize kT cl x s 0=out at hst cU⊢;generalize s.a=n at hst hn0 cW⊢;generalize s.q.s=t at hst lE ht1⊢;conv=>whnf
   repeat'(first|refine AU ?_|refine IW ?_ ?_<;>intro h<;>try omega)<;>conv=>whnf
   .have hw:out.length+([64]:LB).length<=140737488355328:=by simp only[List.length_cons,List.length_nil];omega
    refine CALL.aA [6] (Z2 out [64] hw) ?_;rintro r O' vZ ⟨rfl,rfl,rfl⟩;clear hw;have hw:(out++ [64]).length+([32]:LB).length<=140737488355328:=by simp only[ze,List.length_cons,List.length_nil];omega
    conv=>whnf
    skip
    refine CALL.aA [6] (Z2 (out++ [64]) [32] hw) ?_;rintro r O' vZ ⟨rfl,rfl,rfl⟩;clear hw;conv=>whnf
    skip
    refine⟨1,by omega,by omega,?_⟩;dsimp only;rw[hst,HP h,<-zR];conv=>whnf
    exact vY.cA h0
   .have hnl:n.toNat<cl.length:=by omega
    have rU:=hc _ (zq hnl);have hI:eu cl[n.toNat]:=⟨by omega,by omega⟩;have hil:=ZM hI;have hg:=V6 hnl;rw[HQ hc (by assumption) h hnl,<-zR]at hst;generalize cl[n.toNat]=c at rU hI hil hg hst⊢;repeat'(first|(show uK _ _ _ _ _ _ _;first|refine Zs 14 U0 ?_)|refine qW.mk (fun _ _=>?_)|refine AD ?_|refine CALL.value (Zz c hI) rfl rfl ?_|refine GET.at (row:=Z8 c) (by rw[zw];exact hg) ?_|refine AU ?_)<;>conv=>whnf
    have hw:out.length+([35]++itoa c).length<=140737488355328:=by simp only[ze,List.length_cons,List.length_nil];omega
    refine CALL.aA [6] (Z2 out ([35]++itoa c) hw) ?_;rintro r O' vZ ⟨rfl,rfl,rfl⟩;clear hw
    skip
    have hw:(out++([35]++itoa c)).length+([32]:LB).length<=140737488355328:=by simp only[ze,List.length_cons,List.length_nil];omega
    conv=>whnf
    skip
    refine CALL.aA [6] (Z2 (out++([35]++itoa c)) [32] hw) ?_;rintro r O' vZ ⟨rfl,rfl,rfl⟩;clear hw;conv=>whnf
    skip
    refine⟨1,by omega,by omega,?_⟩;dsimp only;rw[hst];conv=>whnf
    exact vY.cA h0
   .rw[HR h]at hst;have h1:=YP (s:=t.t) (N:=N) (by omega) hN;have h2:=YP (s:=t.y) (N:=N) (by omega) hN;have h3:=YP (s:=t.l) (N:=N) (by omega) hN;have hil:=ZM ht1;have hw1:out.length+(Zn t.t).length<=140737488355328:=by omega
    have lg:(out++Zn t.t).length+(Zn t.y).length<=140737488355328:=by rw[ze];omega
    have ic:((out++Zn t.t)++Zn t.y).length+(Zn t.l).length<=140737488355328:=by rw[ze,ze];omega
    have hI:eu (t.t.length:Int):=⟨by omega,by omega⟩;have hq:=ZM hI;repeat'(first|refine ua.once Z3 ?_|refine CALL.value (Zz (t.t.length:Int) hI) rfl rfl ?_|refine ud.mk (by simp;omega) ?_|refine AU ?_|refine IW ?_ ?_<;>intro h<;>try omega)<;>conv=>whnf
    clear hI hq;refine CALL.aA [6] (Z2 (out) (Zn t.t) hw1) ?_;rintro r O' vZ ⟨rfl,rfl,rfl⟩;conv=>whnf
    have hI:eu (t.y.length:Int):=⟨by omega,by omega⟩;have hq:=ZM hI;repeat'(first|refine ua.once Z3 ?_|refine CALL.value (Zz (t.y.length:Int) hI) rfl rfl ?_|refine ud.mk (by simp;omega) ?_|refine AU ?_|refine IW ?_ ?_<;>intro h<;>try omega)<;>conv=>whnf
    clear hI hq;refine CALL.aA [6] (Z2 (out++Zn t.t) (Zn t.y) lg) ?_;rintro r O' vZ ⟨rfl,rfl,rfl⟩;conv=>whnf
    have hI:eu (t.l.length:Int):=⟨by omega,by omega⟩;have hq:=ZM hI;repeat'(first|refine ua.once Z3 ?_|refine CALL.value (Zz (t.l.length:Int) hI) rfl rfl ?_|refine ud.mk (by simp;omega) ?_|refine AU ?_|refine IW ?_ ?_<;>intro h<;>try omega)<;>conv=>whnf
    clear hI hq;refine CALL.aA [6] (Z2 ((out++Zn t.t)++Zn t.y) (Zn t.l) ic) ?_;rintro r O' vZ ⟨rfl,rfl,rfl⟩;conv=>whnf
    repeat'(first|refine ua.once Z3 ?_|refine CALL.value (Zz t.k ht1) rfl rfl ?_|refine IW ?_ ?_<;>intro h<;>try omega)<;>conv=>whnf
    have hw:(((out++Zn t.t)++Zn t.y)++Zn t.l).length+(itoa t.k).length<=140737488355328:=by simp only[ze];omega
    refine CALL.aA [6] (Z2 (((out++Zn t.t)++Zn t.y)++Zn t.l) (itoa t.k) hw) ?_;rintro r O' vZ ⟨rfl,rfl,rfl⟩;clear hw;have hw:((((out++Zn t.t)++Zn t.y)++Zn t.l)++itoa t.k).length+([32]:LB).length<=140737488355328:=by simp only[ze,List.length_cons,List.length_nil];omega
    conv=>whnf
    skip
    refine CALL.aA [6] (Z2 ((((out++Zn t.t)++Zn t.y)++Zn t.l)++itoa t.k) [32] hw) ?_;rintro r O' vZ ⟨rfl,rfl,rfl⟩;clear hw;conv=>whnf
    skip
    refine⟨1,by omega,by omega,?_⟩;dsimp only;rw[hst];conv=>whnf
    exact vY.cA h0
  .have hst:kT cl x s 2=kT cl x s 1++Vt (q9 cl x s.b s.q.p):=by simp[kT,ia]
   have cU:=Gk (x:=x) hs hN hc (k:=1) (by omega);obtain⟨hn0,cW⟩:=hs.b;obtain⟨lE,ht1⟩:=hs.tp;generalize kT cl x s 1=out at hst cU⊢;generalize s.b=n at hst hn0 cW⊢;generalize s.q.p=t at hst lE ht1⊢;conv=>whnf
   repeat'(first|refine AU ?_|refine IW ?_ ?_<;>intro h<;>try omega)<;>conv=>whnf
   .have hw:out.length+([64]:LB).length<=140737488355328:=by simp only[List.length_cons,List.length_nil];omega
    refine CALL.aA [6] (Z2 out [64] hw) ?_;rintro r O' vZ ⟨rfl,rfl,rfl⟩;clear hw;have hw:(out++ [64]).length+([32]:LB).length<=140737488355328:=by simp only[ze,List.length_cons,List.length_nil];omega
    conv=>whnf
    skip
    refine CALL.aA [6] (Z2 (out++ [64]) [32] hw) ?_;rintro r O' vZ ⟨rfl,rfl,rfl⟩;clear hw;conv=>whnf
    skip
    refine⟨2,by omega,by omega,?_⟩;dsimp only;rw[hst,HP h,<-zR];conv=>whnf
    exact vY.cA h0
   .have hnl:n.toNat<cl.length:=by omega
    have rU:=hc _ (zq hnl);have hI:eu cl[n.toNat]:=⟨by omega,by omega⟩;have hil:=ZM hI;have hg:=V6 hnl;rw[HQ hc (by assumption) h hnl,<-zR]at hst;generalize cl[n.toNat]=c at rU hI hil hg hst⊢;repeat'(first|(show uK _ _ _ _ _ _ _;first|refine Zs 14 U0 ?_)|refine qW.mk (fun _ _=>?_)|refine AD ?_|refine CALL.value (Zz c hI) rfl rfl ?_|refine GET.at (row:=Z8 c) (by rw[zw];exact hg) ?_|refine AU ?_)<;>conv=>whnf
    have hw:out.length+([35]++itoa c).length<=140737488355328:=by simp only[ze,List.length_cons,List.length_nil];omega
    refine CALL.aA [6] (Z2 out ([35]++itoa c) hw) ?_;rintro r O' vZ ⟨rfl,rfl,rfl⟩;clear hw
    skip
    have hw:(out++([35]++itoa c)).length+([32]:LB).length<=140737488355328:=by simp only[ze,List.length_cons,List.length_nil];omega
    conv=>whnf
    skip
    refine CALL.aA [6] (Z2 (out++([35]++itoa c)) [32] hw) ?_;rintro r O' vZ ⟨rfl,rfl,rfl⟩;clear hw;conv=>whnf
    skip
    refine⟨2,by omega,by omega,?_⟩;dsimp only;rw[hst];conv=>whnf
    exact vY.cA h0
   .rw[HR h]at hst;have h1:=YP (s:=t.t) (N:=N) (by omega) hN;have h2:=YP (s:=t.y) (N:=N) (by omega) hN;have h3:=YP (s:=t.l) (N:=N) (by omega) hN;have hil:=ZM ht1;have hw1:out.length+(Zn t.t).length<=140737488355328:=by omega
    have lg:(out++Zn t.t).length+(Zn t.y).length<=140737488355328:=by rw[ze];omega
    have ic:((out++Zn t.t)++Zn t.y).length+(Zn t.l).length<=140737488355328:=by rw[ze,ze];omega
    have hI:eu (t.t.length:Int):=⟨by omega,by omega⟩;have hq:=ZM hI;repeat'(first|refine ua.once Z3 ?_|refine CALL.value (Zz (t.t.length:Int) hI) rfl rfl ?_|refine ud.mk (by simp;omega) ?_|refine AU ?_|refine IW ?_ ?_<;>intro h<;>try omega)<;>conv=>whnf
    clear hI hq;refine CALL.aA [6] (Z2 (out) (Zn t.t) hw1) ?_;rintro r O' vZ ⟨rfl,rfl,rfl⟩;conv=>whnf
    have hI:eu (t.y.length:Int):=⟨by omega,by omega⟩;have hq:=ZM hI;repeat'(first|refine ua.once Z3 ?_|refine CALL.value (Zz (t.y.length:Int) hI) rfl rfl ?_|refine ud.mk (by simp;omega) ?_|refine AU ?_|refine IW ?_ ?_<;>intro h<;>try omega)<;>conv=>whnf
    clear hI hq;refine CALL.aA [6] (Z2 (out++Zn t.t) (Zn t.y) lg) ?_;rintro r O' vZ ⟨rfl,rfl,rfl⟩;conv=>whnf
    have hI:eu (t.l.length:Int):=⟨by omega,by omega⟩;have hq:=ZM hI;repeat'(first|refine ua.once Z3 ?_|refine CALL.value (Zz (t.l.length:Int) hI) rfl rfl ?_|refine ud.mk (by simp;omega) ?_|refine AU ?_|refine IW ?_ ?_<;>intro h<;>try omega)<;>conv=>whnf
    clear hI hq;refine CALL.aA [6] (Z2 ((out++Zn t.t)++Zn t.y) (Zn t.l) ic) ?_;rintro r O' vZ ⟨rfl,rfl,rfl⟩;conv=>whnf
    repeat'(first|refine ua.once Z3 ?_|refine CALL.value (Zz t.k ht1) rfl rfl ?_|refine IW ?_ ?_<;>intro h<;>try omega)<;>conv=>whnf
    have hw:(((out++Zn t.t)++Zn t.y)++Zn t.l).length+(itoa t.k).length<=140737488355328:=by simp only[ze];omega
    refine CALL.aA [6] (Z2 (((out++Zn t.t)++Zn t.y)++Zn t.l) (itoa t.k) hw) ?_;rintro r O' vZ ⟨rfl,rfl,rfl⟩;clear hw;have hw:((((out++Zn t.t)++Zn t.y)++Zn t.l)++itoa t.k).length+([32]:LB).length<=140737488355328:=by simp only[ze,List.length_cons,List.length_nil];omega
    conv=>whnf
    skip
    refine CALL.aA [6] (Z2 ((((out++Zn t.t)++Zn t.y)++Zn t.l)++itoa t.k) [32] hw) ?_;rintro r O' vZ ⟨rfl,rfl,rfl⟩;clear hw;conv=>whnf
    skip
    refine⟨2,by omega,by omega,?_⟩;dsimp only;rw[hst];conv=>whnf
    exact vY.cA h0
  .have hst:kT cl x s 3=kT cl x s 2++Vt (q9 cl x s.c s.q.o):=by simp[kT,ia]
   have cU:=Gk (x:=x) hs hN hc (k:=2) (by omega);obtain⟨hn0,cW⟩:=hs.c;obtain⟨lE,ht1⟩:=hs.to;generalize kT cl x s 2=out at hst cU⊢;generalize s.c=n at hst hn0 cW⊢;generalize s.q.o=t at hst lE ht1⊢;conv=>whnf
   repeat'(first|refine AU ?_|refine IW ?_ ?_<;>intro h<;>try omega)<;>conv=>whnf
   .have hw:out.length+([64]:LB).length<=140737488355328:=by simp only[List.length_cons,List.length_nil];omega
    refine CALL.aA [6] (Z2 out [64] hw) ?_;rintro r O' vZ ⟨rfl,rfl,rfl⟩;clear hw;have hw:(out++ [64]).length+([32]:LB).length<=140737488355328:=by simp only[ze,List.length_cons,List.length_nil];omega
    conv=>whnf
    skip
    refine CALL.aA [6] (Z2 (out++ [64]) [32] hw) ?_;rintro r O' vZ ⟨rfl,rfl,rfl⟩;clear hw;conv=>whnf
    skip
    refine⟨3,by omega,by omega,?_⟩;dsimp only;rw[hst,HP h,<-zR];conv=>whnf
    exact vY.cA h0
   .have hnl:n.toNat<cl.length:=by omega
    have rU:=hc _ (zq hnl);have hI:eu cl[n.toNat]:=⟨by omega,by omega⟩;have hil:=ZM hI;have hg:=V6 hnl;rw[HQ hc (by assumption) h hnl,<-zR]at hst;generalize cl[n.toNat]=c at rU hI hil hg hst⊢;repeat'(first|(show uK _ _ _ _ _ _ _;first|refine Zs 14 U0 ?_)|refine qW.mk (fun _ _=>?_)|refine AD ?_|refine CALL.value (Zz c hI) rfl rfl ?_|refine GET.at (row:=Z8 c) (by rw[zw];exact hg) ?_|refine AU ?_)<;>conv=>whnf
    have hw:out.length+([35]++itoa c).length<=140737488355328:=by simp only[ze,List.length_cons,List.length_nil];omega
    refine CALL.aA [6] (Z2 out ([35]++itoa c) hw) ?_;rintro r O' vZ ⟨rfl,rfl,rfl⟩;clear hw
    skip
    have hw:(out++([35]++itoa c)).length+([32]:LB).length<=140737488355328:=by simp only[ze,List.length_cons,List.length_nil];omega
    conv=>whnf
    skip
    refine CALL.aA [6] (Z2 (out++([35]++itoa c)) [32] hw) ?_;rintro r O' vZ ⟨rfl,rfl,rfl⟩;clear hw;conv=>whnf
    skip
    refine⟨3,by omega,by omega,?_⟩;dsimp only;rw[hst];conv=>whnf
    exact vY.cA h0
   .rw[HR h]at hst;have h1:=YP (s:=t.t) (N:=N) (by omega) hN;have h2:=YP (s:=t.y) (N:=N) (by omega) hN;have h3:=YP (s:=t.l) (N:=N) (by omega) hN;have hil:=ZM ht1;have hw1:out.length+(Zn t.t).length<=140737488355328:=by omega
    have lg:(out++Zn t.t).length+(Zn t.y).length<=140737488355328:=by rw[ze];omega
    have ic:((out++Zn t.t)++Zn t.y).length+(Zn t.l).length<=140737488355328:=by rw[ze,ze];omega
    have hI:eu (t.t.length:Int):=⟨by omega,by omega⟩;have hq:=ZM hI;repeat'(first|refine ua.once Z3 ?_|refine CALL.value (Zz (t.t.length:Int) hI) rfl rfl ?_|refine ud.mk (by simp;omega) ?_|refine AU ?_|refine IW ?_ ?_<;>intro h<;>try omega)<;>conv=>whnf
    clear hI hq;refine CALL.aA [6] (Z2 (out) (Zn t.t) hw1) ?_;rintro r O' vZ ⟨rfl,rfl,rfl⟩;conv=>whnf
    have hI:eu (t.y.length:Int):=⟨by omega,by omega⟩;have hq:=ZM hI;repeat'(first|refine ua.once Z3 ?_|refine CALL.value (Zz (t.y.length:Int) hI) rfl rfl ?_|refine ud.mk (by simp;omega) ?_|refine AU ?_|refine IW ?_ ?_<;>intro h<;>try omega)<;>conv=>whnf
    clear hI hq;refine CALL.aA [6] (Z2 (out++Zn t.t) (Zn t.y) lg) ?_;rintro r O' vZ ⟨rfl,rfl,rfl⟩;conv=>whnf
    have hI:eu (t.l.length:Int):=⟨by omega,by omega⟩;have hq:=ZM hI;repeat'(first|refine ua.once Z3 ?_|refine CALL.value (Zz (t.l.length:Int) hI) rfl rfl ?_|refine ud.mk (by simp;omega) ?_|refine AU ?_|refine IW ?_ ?_<;>intro h<;>try omega)<;>conv=>whnf
    clear hI hq;refine CALL.aA [6] (Z2 ((out++Zn t.t)++Zn t.y) (Zn t.l) ic) ?_;rintro r O' vZ ⟨rfl,rfl,rfl⟩;conv=>whnf
    repeat'(first|refine ua.once Z3 ?_|refine CALL.value (Zz t.k ht1) rfl rfl ?_|refine IW ?_ ?_<;>intro h<;>try omega)<;>conv=>whnf
    have hw:(((out++Zn t.t)++Zn t.y)++Zn t.l).length+(itoa t.k).length<=140737488355328:=by simp only[ze];omega
    refine CALL.aA [6] (Z2 (((out++Zn t.t)++Zn t.y)++Zn t.l) (itoa t.k) hw) ?_;rintro r O' vZ ⟨rfl,rfl,rfl⟩;clear hw;have hw:((((out++Zn t.t)++Zn t.y)++Zn t.l)++itoa t.k).length+([32]:LB).length<=140737488355328:=by simp only[ze,List.length_cons,List.length_nil];omega
    conv=>whnf
    skip
    refine CALL.aA [6] (Z2 ((((out++Zn t.t)++Zn t.y)++Zn t.l)++itoa t.k) [32] hw) ?_;rintro r O' vZ ⟨rfl,rfl,rfl⟩;clear hw;conv=>whnf
    skip
    refine⟨3,by omega,by omega,?_⟩;dsimp only;rw[hst];conv=>whnf
    exact vY.cA h0
  .have hst:kT cl x s 4=kT cl x s 3++Vt (q9 cl x s.d s.q.g):=by simp[kT,ia]
   have cU:=Gk (x:=x) hs hN hc (k:=3) (by omega);obtain⟨hn0,cW⟩:=hs.d;obtain⟨lE,ht1⟩:=hs.tg;generalize kT cl x s 3=out at hst cU⊢;generalize s.d=n at hst hn0 cW⊢;generalize s.q.g=t at hst lE ht1⊢;conv=>whnf
   repeat'(first|refine AU ?_|refine IW ?_ ?_<;>intro h<;>try omega)<;>conv=>whnf
   .have hw:out.length+([64]:LB).length<=140737488355328:=by simp only[List.length_cons,List.length_nil];omega
    refine CALL.aA [6] (Z2 out [64] hw) ?_;rintro r O' vZ ⟨rfl,rfl,rfl⟩;clear hw;have hw:(out++ [64]).length+([32]:LB).length<=140737488355328:=by simp only[ze,List.length_cons,List.length_nil];omega
    conv=>whnf
    skip
    refine CALL.aA [6] (Z2 (out++ [64]) [32] hw) ?_;rintro r O' vZ ⟨rfl,rfl,rfl⟩;clear hw;conv=>whnf
    skip
    refine⟨4,by omega,by omega,?_⟩;dsimp only;rw[hst,HP h,<-zR];conv=>whnf
    exact vY.cA h0
   .have hnl:n.toNat<cl.length:=by omega
    have rU:=hc _ (zq hnl);have hI:eu cl[n.toNat]:=⟨by omega,by omega⟩;have hil:=ZM hI;have hg:=V6 hnl;rw[HQ hc (by assumption) h hnl,<-zR]at hst;generalize cl[n.toNat]=c at rU hI hil hg hst⊢;repeat'(first|(show uK _ _ _ _ _ _ _;first|refine Zs 14 U0 ?_)|refine qW.mk (fun _ _=>?_)|refine AD ?_|refine CALL.value (Zz c hI) rfl rfl ?_|refine GET.at (row:=Z8 c) (by rw[zw];exact hg) ?_|refine AU ?_)<;>conv=>whnf
    have hw:out.length+([35]++itoa c).length<=140737488355328:=by simp only[ze,List.length_cons,List.length_nil];omega
    refine CALL.aA [6] (Z2 out ([35]++itoa c) hw) ?_;rintro r O' vZ ⟨rfl,rfl,rfl⟩;clear hw
    skip
    have hw:(out++([35]++itoa c)).length+([32]:LB).length<=140737488355328:=by simp only[ze,List.length_cons,List.length_nil];omega
    conv=>whnf
    skip
    refine CALL.aA [6] (Z2 (out++([35]++itoa c)) [32] hw) ?_;rintro r O' vZ ⟨rfl,rfl,rfl⟩;clear hw;conv=>whnf
    skip
    refine⟨4,by omega,by omega,?_⟩;dsimp only;rw[hst];conv=>whnf
    exact vY.cA h0
   .rw[HR h]at hst;have h1:=YP (s:=t.t) (N:=N) (by omega) hN;have h2:=YP (s:=t.y) (N:=N) (by omega) hN;have h3:=YP (s:=t.l) (N:=N) (by omega) hN;have hil:=ZM ht1;have hw1:out.length+(Zn t.t).length<=140737488355328:=by omega
    have lg:(out++Zn t.t).length+(Zn t.y).length<=140737488355328:=by rw[ze];omega
    have ic:((out++Zn t.t)++Zn t.y).length+(Zn t.l).length<=140737488355328:=by rw[ze,ze];omega
    have hI:eu (t.t.length:Int):=⟨by omega,by omega⟩;have hq:=ZM hI;repeat'(first|refine ua.once Z3 ?_|refine CALL.value (Zz (t.t.length:Int) hI) rfl rfl ?_|refine ud.mk (by simp;omega) ?_|refine AU ?_|refine IW ?_ ?_<;>intro h<;>try omega)<;>conv=>whnf
    clear hI hq;refine CALL.aA [6] (Z2 (out) (Zn t.t) hw1) ?_;rintro r O' vZ ⟨rfl,rfl,rfl⟩;conv=>whnf
    have hI:eu (t.y.length:Int):=⟨by omega,by omega⟩;have hq:=ZM hI;repeat'(first|refine ua.once Z3 ?_|refine CALL.value (Zz (t.y.length:Int) hI) rfl rfl ?_|refine ud.mk (by simp;omega) ?_|refine AU ?_|refine IW ?_ ?_<;>intro h<;>try omega)<;>conv=>whnf
    clear hI hq;refine CALL.aA [6] (Z2 (out++Zn t.t) (Zn t.y) lg) ?_;rintro r O' vZ ⟨rfl,rfl,rfl⟩;conv=>whnf
    have hI:eu (t.l.length:Int):=⟨by omega,by omega⟩;have hq:=ZM hI;repeat'(first|refine ua.once Z3 ?_|refine CALL.value (Zz (t.l.length:Int) hI) rfl rfl ?_|refine ud.mk (by simp;omega) ?_|refine AU ?_|refine IW ?_ ?_<;>intro h<;>try omega)<;>conv=>whnf
    clear hI hq;refine CALL.aA [6] (Z2 ((out++Zn t.t)++Zn t.y) (Zn t.l) ic) ?_;rintro r O' vZ ⟨rfl,rfl,rfl⟩;conv=>whnf
    repeat'(first|refine ua.once Z3 ?_|refine CALL.value (Zz t.k ht1) rfl rfl ?_|refine IW ?_ ?_<;>intro h<;>try omega)<;>conv=>whnf
    have hw:(((out++Zn t.t)++Zn t.y)++Zn t.l).length+(itoa t.k).length<=140737488355328:=by simp only[ze];omega
    refine CALL.aA [6] (Z2 (((out++Zn t.t)++Zn t.y)++Zn t.l) (itoa t.k) hw) ?_;rintro r O' vZ ⟨rfl,rfl,rfl⟩;clear hw;have hw:((((out++Zn t.t)++Zn t.y)++Zn t.l)++itoa t.k).length+([32]:LB).length<=140737488355328:=by simp only[ze,List.length_cons,List.length_nil];omega
    conv=>whnf
    skip
    refine CALL.aA [6] (Z2 ((((out++Zn t.t)++Zn t.y)++Zn t.l)++itoa t.k) [32] hw) ?_;rintro r O' vZ ⟨rfl,rfl,rfl⟩;clear hw;conv=>whnf
    skip
    refine⟨4,by omega,by omega,?_⟩;dsimp only;rw[hst];conv=>whnf
    exact vY.cA h0
 .have hk:k=4:=by simp at h;omega
  subst hk;rw[LZ];conv=>whnf
  skip
  refine CALL.aA [6] (LY (Xm (aq cl x s))) ?_;rintro r O' vZ ⟨rfl,rfl,rfl⟩;conv=>whnf
  exact u9.uh h0 rfl rfl
end Go.Proofs.YtlcbipfmodcedaaGreatDoor
namespace Go.Proofs.YtlcbipfmodcedaaGreatDoor
open Go.Sx Go.Our Go.Lib
open _root_.Go.Proofs.Tryz
def kB(l:List LB):Nat:=(l.map List.length).sum
theorem Bx{l:List LB}{i:Nat}(h:i<l.length):kB (l.take (i+1))=kB (l.take i)+l[i].length:=by
 unfold kB;rw[zB h,yo,List.sum_append_nat];rfl
theorem Gl(l:List LB)(i:Nat):kB (l.take i)<=kB l:=by
 have:kB l=kB (l.take i)+kB (l.drop i):=by unfold kB;rw[<-List.sum_append_nat,<-yo,xd]
 omega
theorem Bz(l:List LB):(Vd l).length=l.length+kB l:=by
 induction l with
 |nil=>rfl
 |cons a l ih=>simp only[Vd,List.length_cons,ze,ih,kB,zL,List.sum_cons];omega
theorem ZdT{l:List LB}{i:Nat}(h:i<l.length):Vd (l.take (i+1))=(Vd (l.take i)++ [10])++l[i]:=by
 rw[zB h];generalize l.take i=m
 induction m with
 |nil=>simp[Vd]
 |cons a m ih=>simp[Vd,ih]
theorem Zgf{n:Nat}(h1:2<=n)(h2:n<=35184372088832):1<IntKind.i64.wrap (Int.tdiv 9223372036854775807 ((n:Int)-1)):=by
 have e:((n:Int)-1)=((n-1:Nat):Int):=by omega
 rw[e,show(9223372036854775807:Int)=((9223372036854775807:Nat):Int)from rfl,<-Int.ofNat_tdiv];have h3:2<=9223372036854775807/ (n-1):=by rw[Nat.le_div_iff_mul_le (by omega)];omega
 have h4:9223372036854775807/ (n-1)<=9223372036854775807:=Nat.div_le_self _ _;rw[Z4 (by omega) (by omega)];omega
theorem ZdU(l:List LB)(hl:(Vd l).length<=35184372088832):
 vW prog uv 133 1 [.sl (.loc 0) 0 1 l.length none, .str [10]] [] [(0, .rows 1 (l.map Z9))] (qd 1 (.str (Wf l))):=by
 rw[Bz]at hl;by_cases h0':l=[]
 .subst h0';refine vW.enter Z3 call133 func133 rfl 75 rfl rfl [.tmp 4] rfl ?_;intro w0 F η0 h0;conv=>whnf
  repeat'(first|refine IW ?_ ?_<;>intro h<;>try omega)<;>conv=>whnf
  exact u9.uh h0 rfl rfl
 by_cases jo:l.length=1
 .obtain⟨a,rfl⟩:=List.length_eq_one_iff.1 jo;refine vW.enter Z3 call133 func133 rfl 75 rfl rfl [.tmp 4] rfl ?_;intro w0 F η0 h0;conv=>whnf
  repeat'(first|refine GET.at (row:=Z9 a) rfl ?_|refine AU ?_|refine IW ?_ ?_<;>intro h<;>try omega)<;>conv=>whnf
  exact u9.uh h0 rfl (zf SV.str (by simp[Wf,Vd]))
 have h2:2<=l.length:=by
  have:=List.length_pos_iff.2 h0';omega
 have hq:=Zgf h2 (by omega);have Gm:0<l.length:=by omega
 have ig:=Gl l 1;rw[Bx Gm,show kB (l.take 0)=0 from rfl]at ig;refine vW.enter Z3 call133 func133 rfl 75 rfl rfl [.tmp 4] rfl ?_;intro w0 F η0 h0;conv=>whnf
 repeat'(first|refine AU ?_|refine IW ?_ ?_<;>intro h<;>try omega)<;>conv=>whnf
 refine ua.go Z3 [0,1,39,40] (X:=Nat) (fun i=>i<=l.length) (fun i=>[(41, .int .i64 (i:Int)),(5, .int .i64 ((l.length:Int)-1+(kB (l.take i):Int)))]) (fun _=>[]) 1 (fun i=>l.length-i) 0 (by omega) ?_;conv=>whnf
 refine⟨by rw[show kB (l.take 0)=0 from rfl];exact vY.cA h0,?_⟩;intro i hi;have hle:=Gl l i;conv=>whnf
 by_cases hil:i<l.length
 .have hst:=Bx hil;have hle2:=Gl l (i+1);repeat'(first|refine GET.at (row:=Z9 l[i]) (YT hil (by omega)) ?_|refine AU ?_|refine IW ?_ ?_<;>intro h<;>try omega)<;>conv=>whnf
  refine⟨i+1,by omega,by omega,?_⟩;rw[hst];conv=>whnf
  exact vY.cA h0
 .have hie:i=l.length:=by omega
  subst hie;rw[yb];have hn:((l.length:Int)-1+(kB l:Int))=((l.length-1+kB l:Nat):Int):=by omega
  rw[hn];conv=>whnf
  repeat'(first|refine IW ?_ ?_<;>intro h<;>try omega)<;>conv=>whnf
  refine CALL.aA [1] (ZdS (l.length-1+kB l) (by omega)) ?_;rintro r O' vZ ⟨rfl,rfl,rfl⟩;conv=>whnf
  repeat'(first|refine GET.at (row:=Z9 l[0]) (YT Gm rfl) ?_|refine AU ?_)<;>conv=>whnf
  have hw:([]:LB).length+l[0].length<=140737488355328:=by simp only[List.length_nil];omega
  refine CALL.aA [1] (Z2 [] l[0] hw) ?_;rintro r O' vZ ⟨rfl,rfl,rfl⟩;clear hw;conv=>whnf
  repeat'(first|refine AU ?_)<;>conv=>whnf
  have hm:l.tail.length=l.length-1:=List.length_tail
  have hml:l[0].length+kB l.tail<=kB l:=by
   obtain⟨a,m,rfl⟩:=List.exists_cons_of_ne_nil h0';simp[kB]
  refine ua.j5 Z3 [1,8,63,64] [] (X:=Nat) (fun i=>i<=l.tail.length) (fun i=>[(65, .int .i64 (i:Int))]) (fun i=>[(1, .kH TB TU (l[0]++Vd (l.tail.take i)))]) 2 (fun i=>l.tail.length-i) 0 (by omega) ?_;conv=>whnf
  refine⟨by rw[show l[0]++Vd (l.tail.take 0)=[]++l[0]by simp[Vd]];exact vY.cA h0,?_⟩;intro i hi;have aW:=Bz (l.tail.take i);have pI:=Gl l.tail i;rw[zA]at aW;conv=>whnf
  by_cases hil:i<l.tail.length
  .have hst:=ZdT hil;have Gn:=Gl l.tail (i+1);rw[Bx hil]at Gn
   have hg:(l.map Z9)[i+1]?=some (Z9 l.tail[i]):=by
    rw[z7,List.getElem_tail,z1 (by omega)];rfl
   generalize Vd (l.tail.take i)=out at hst aW⊢;generalize l.tail[i]=s at hst Gn hg;generalize l[0]=a at hml hst⊢;repeat'(first|refine GET.at (row:=Z9 s) (by rw[<-hg];congr 1;omega) ?_|refine AU ?_|refine IW ?_ ?_<;>intro h<;>try omega)<;>conv=>whnf
   have hw:(a++out).length+([10]:LB).length<=140737488355328:=by simp only[ze,List.length_cons,List.length_nil];omega
   refine CALL.aA [1] (Z2 (a++out) [10] hw) ?_;rintro r O' vZ ⟨rfl,rfl,rfl⟩;clear hw;conv=>whnf
   skip
   have hw:((a++out)++ [10]).length+s.length<=140737488355328:=by simp only[ze,List.length_cons,List.length_nil];omega
   refine CALL.aA [1] (Z2 ((a++out)++ [10]) s hw) ?_;rintro r O' vZ ⟨rfl,rfl,rfl⟩;clear hw;conv=>whnf
   skip
   refine⟨i+1,by omega,by omega,?_⟩;rw[hst,show a++((out++ [10])++s)=((a++out)++ [10])++s by simp];conv=>whnf
   exact vY.cA h0
  .have hie:i=l.tail.length:=by omega
   subst hie;rw[yb];repeat'(first|refine IW ?_ ?_<;>intro h<;>try omega)<;>conv=>whnf
   refine CALL.aA [1] (LY (l[0]++Vd l.tail)) ?_;rintro r O' vZ ⟨rfl,rfl,rfl⟩;conv=>whnf
   refine u9.uh h0 rfl (zf SV.str ?_);obtain⟨a,m,rfl⟩:=List.exists_cons_of_ne_nil h0'
   rfl
open _root_.Go.Proofs.Tryz
def Z8X:uJ:=(ZI [(0,1),(2,1),(3,1),(4,1),(1,2),(5,2),(6,1),(7,1)])
def XN(cl:List Int)(ins:List (List Sd)):List LB:=(List.range cl.length).map (kN cl ins)
theorem Gq(cl:List Int)(ins:List (List Sd)):(XN cl ins).length=cl.length:=by simp[XN]
theorem BF{cl:List Int}{ins:List (List Sd)}{x:Nat}(h:x< (XN cl ins).length):(XN cl ins)[x]=kN cl ins x:=by simp[XN]
theorem R5{b:Int}{A B:List LB}:∀{i:Nat},i<=A.length->X0 b (A++B) i=X0 b A i
 |0,_=>rfl
 |i+1,h=>by
  rw[V7 (show i< (A++B).length by rw[ze];omega),V7 (show i<A.length by omega),R5 (by omega),List.getElem_append_left]
theorem Zgg{b:Int}{A:List LB}{k:LB}:X0 b (A++ [k]) (A++ [k]).length=qv k (b+A.length) (X0 b A A.length):=by
 rw[show(A++ [k]).length=A.length+1 by simp,V7 (by simp),R5 (zn _)];simp
theorem BG{b:Int}{A:List LB}(hn:A.Nodup):∀{i:Nat},i<=A.length->(X0 b A i).length=i
 |0,_=>rfl
 |i+1,h=>by
  rw[V7 (by omega),Ur];rw[ze,BG hn (by omega)];rfl
  .have hg:=WO (b:=b) hn i A[i] (by omega);rw[hn.idxOf_getElem i (by omega),yP (by omega)]at hg;cases hx:js A[i] (X0 b A i)with
   |none=>rfl
   |some p=>obtain⟨j,v⟩:=p;rw[VT hx]at hg;cases hg
def oE(ks:List LB)(n x:Nat):List Int:=(XM ks).take x++List.replicate (n-x) 0
theorem R6{ks:List LB}{n x:Nat}{v:Int}(hk:ks.length=n)(hx:x<n)(hv:(XM ks)[x]?=some v):(oE ks n x).set x v=oE ks n (x+1):=by
 have hl:((XM ks).take x).length=x:=by rw[zA,YX];omega
 unfold oE;rw[xe _ _ (by omega),hl,v8,show n-x=(n-(x+1))+1 by omega,List.replicate_succ,List.set_cons_zero];have hx2:x< (XM ks).length:=by rw[YX];omega
 rw[zB hx2,zR];rw[z1 hx2]at hv;injection hv with hv;rw[hv];rfl
theorem Zgh{ks:List LB}{n x:Nat}(hk:ks.length=n)(hx:x<=n):(oE ks n x).length=n:=by
 unfold oE;rw[ze,zA,zT,YX];omega
theorem Zgi{ks:List LB}{n:Nat}(hk:ks.length=n):oE ks n n=XM ks:=by
 unfold oE;rw[v8,List.replicate_zero,zU,zo (by rw[YX];omega)]
theorem Zby{l:List LB}{B:Nat}(h:∀x∈l,x.length<=B):kB l<=l.length*B:=by
 induction l with
 |nil=>simp[kB]
 |cons a l ih=>
  have h1:=h a (zF ..);have h2:=ih fun x hx=>h x (zG _ hx);simp only[kB,zL,List.sum_cons,List.length_cons]at h2⊢;rw[xB];omega
theorem ZdX{cl:List Int}{x:Nat}{s:Sd}{N:Nat}(hs:nK N cl.length s)(hN:N<=1099511627776)(hc:∀c∈cl,0<=c/\c<4611686018427387904):(Xm (aq cl x s)).length<=4*(N+91):=by
 rw[<-LZ];exact Gk hs hN hc (zn _)
structure nM(cl:List Int)(ins:List (List Sd)):Prop where
 len:ins.length=cl.length
 cs:∀c∈cl,0<=c/\c<67108864
 sd:∀l∈ins,∀s∈l,nK 1048576 cl.length s
 few:∀l∈ins,l.length<=4194304
 n:cl.length<=67108864
theorem ZdY{cl:List Int}{ins:List (List Sd)}(h:nM cl ins){x:Nat}(hx:x<ins.length):(Jp cl ins x).length=ins[x].length/\(Vd (Jp cl ins x)).length<=35184372088832:=by
 have hl:(Jp cl ins x).length=ins[x].length:=by
  unfold Jp Yj;rw[yE,zj,zj,zi,z1 hx,Option.getD_some]
 refine⟨hl,?_⟩;rw[Bz,hl]
 have hb:=Zby (l:=Jp cl ins x) (B:=4194668) (fun t ht=>by
  have ht:t∈(Yj cl ins x).map Xm:=(yV _ _).mem_iff.1 ht;obtain⟨s,hs,rfl⟩:=zM.1 ht;unfold Yj at hs;rw[zi,z1 hx,Option.getD_some]at hs;obtain⟨d,hd,rfl⟩:=zM.1 hs
  exact ZdX (N:=1048576) (h.sd _ (zq hx) d hd) (by omega) (fun c hc=>⟨(h.cs c hc).1,by have:=(h.cs c hc).2;omega⟩))
 rw[hl]at hb;have:=h.few _ (zq hx);omega
theorem R7{ins:List (List Sd)}{x k:Nat}(h:x<ins.length)(hk:k=x):WT (kV ins) k 0=some (k, .uC 20 (ins[x].map Us)):=by
 subst hk;unfold WT;rw[Qe h];rfl
theorem Vu{l:List Int}{k x:Nat}{v:Int}(hk:k=x):(l.map Z8).set k [.int .i64 v]=(l.set x v).map Z8:=by
 subst hk;exact Mt Z8 l k v
theorem R8{ins:List (List Sd)}{x k:Nat}{sv:SV}(h:x<ins.length)(hk:k=x):((kV ins).modify k fun row=>row.set 0 (DC.v sv))[x]?=some [.v sv]:=by
 subst hk;show(uw _ _ _ _)[k]?=_
 rw[Y1,z8 rfl,Qe h];rfl
theorem R9{ins:List (List Sd)}{x k:Nat}{sv:SV}(h:x<ins.length)(hk:k=x):uw ((kV ins).modify k fun row=>row.set 0 (DC.v sv)) x 0 (.uC 20 ((ins[x].map Us).take ins[x].length))=kV ins:=by
 subst hk;show uw (uw _ _ _ _) _ _ _=_
 rw[qy,zo (by rw[zj];exact zn _)];apply yj;intro a;rw[Y1];by_cases ha:a=k
 subst ha;rw[z8 rfl,Qe h];rfl;rw[z6 ha]
theorem Z8Z(cl:List Int)(ins:List (List Sd))(nl ng:Nat)(ct:Int)(h:nM cl ins):
 vW prog uv 98 5 [.ptr (.loc 0) 0 0 0] [(0,lD 2 nl cl.length ins.length ng ct),(2, .rows 1 (cl.map Z8)),(3, .deep false 1 (kV ins))] []
 (fun r O nx=>r= .bool (decide (ct< ((ZC (XN cl ins)).length:Int)))/\O=[(0,lD 5 nl cl.length ins.length ng (ZC (XN cl ins)).length),(3, .deep false 1 (kV ins)),(5, .rows 1 ((XM (XN cl ins)).map Z8))]/\nx=6):=by
 have Kh:=h.len;have hn:=h.n;have cL:=Gq cl ins;obtain⟨ks,hks⟩:∃ks,ks=XN cl ins:=⟨_,rfl⟩;rw[<-hks]at cL⊢
 have hz:(oE ks cl.length 0).map Z8=List.replicate (cl.length:Int).toNat [SV.int .i64 0]:=by
  unfold oE;rw[List.take_zero,List.nil_append,x7,Nat.sub_zero,Int.toNat_natCast];rfl
 refine vW.enter Z3 call98 func98 rfl 97 rfl rfl [.tmp 2] rfl ?_;intro w0 F η0 h0;conv=>whnf
 repeat'(first|refine ud.mk (Ux 8 rfl (by omega) (by omega) (by omega) (by omega)) ?_)<;>conv=>whnf
 rw[<-hz];refine ua.j5 Z3 [0,3,4,24] [0,2,3] (X:=Nat) (fun x=>x<=cl.length) (fun x=>[(25, .int .i64 (x:Int))]) (fun x=>[(5, .mp (kz (X0 0 (ZC (ks.take x)) (ZC (ks.take x)).length))),(6, .rows 1 ((oE ks cl.length x).map Z8))]) 7 (fun x=>cl.length-x) 0 (by omega) ?_;conv=>whnf
 refine⟨by exact vY.kA h0 [5,6],?_⟩;intro x hx;conv=>whnf
 refine IF.mk (fun h1=>?_) (fun h1=>?_)
 .have hlt:x<cl.length:=by simp at h1;omega
  have oF:x<ins.length:=by omega
  conv=>whnf
  repeat'(first|refine wZ.at (R7 oF (by omega)) ?_|refine AU ?_)<;>conv=>whnf
  rw[zj];have nN:=h.few _ (zq oF);have dN:=h.sd _ (zq oF);have Ra:=ZdY h oF;have HT:Yj cl ins x=ins[x].map (aq cl x):=by unfold Yj;rw[zi,z1 oF,Option.getD_some]
  obtain⟨T,hT⟩:∃T,T=(Yj cl ins x).map Xm:=⟨_,rfl⟩;have hTl:T.length=ins[x].length:=by rw[hT,HT];simp
  have hTi:∀(i:Nat) (hi:i<T.length),T[i]=Xm (aq cl x (ins[x][i]'(by omega))):=fun i hi=>by subst hT;simp[HT]
  refine ua.nil 6 1 rfl ?_;refine ua.j5 Z3 [0,3,4,5,24,25,34,35] [0,2,3,5,6,7] (X:=Nat) (fun i=>i<=ins[x].length) (fun i=>[(36, .int .i64 (i:Int)),(6, .sl (.loc 8) 0 1 i none)]) (fun i=>[(8, .rows 1 ((T.take i).map Z9))]) 9 (fun i=>ins[x].length-i) 0 (by omega) ?_;conv=>whnf
  refine⟨by exact vY.cA h0,?_⟩;intro i hi;have aW:(T.take i).length=i:=by rw[zA];omega
  conv=>whnf
  refine IF.mk (fun h2=>?_) (fun h2=>?_)
  .have hil:i<ins[x].length:=by simp at h2;omega
   have hsi:=dN _ (zq hil);have iq:=Zbx cl x ins[x][i] 1048576 hsi (by omega) (fun c hc=>⟨(h.cs c hc).1,by have:=(h.cs c hc).2;omega⟩) (by omega) nl ins.length ng ct;rw[<-hTi i (by omega)]at iq;conv=>whnf
   repeat'(first|refine GET.at (row:=Us ins[x][i]) (YT hil (by omega)) ?_|refine AU ?_)<;>conv=>whnf
   refine CALL.aA [0,1,2,3,4] (iq) ?_;rintro r O nx ⟨rfl,rfl,rfl⟩;conv=>whnf
   repeat'(first|refine ud.mk (Ye 16 rfl rfl rfl (by rw[zj,aW];exact zn _) (by omega)) ?_)<;>conv=>whnf
   rw[BA T (by omega)];refine⟨i+1,by omega,by omega,?_⟩;conv=>whnf
   exact vY.kA h0 [5,6,7,11]
  .have hie:i=T.length:=by simp at h2;omega
   subst hie;rw[yb];conv=>whnf
   skip
   refine CALL.aA [8] (MS T (by omega)) ?_;rintro r O nx ⟨rfl,rfl,rfl⟩;have hXe:T.mergeSort (wW Our.cmpL)=Jp cl ins x:=by rw[hT];rfl
   rw[hXe];have Rb:(Jp cl ins x).length=T.length:=by omega
   rw[<-Rb];have rU:=h.cs _ (zq hlt);have hI:eu cl[x]:=⟨by omega,by omega⟩;have hil:=ZM hI
   have hkx:ks[x]'(by omega)=(itoa cl[x]++ [10])++Wf (Jp cl ins x):=by
    subst hks;rw[BF];unfold kN;rw[zi,z1 hlt,Option.getD_some];simp
   have hjn:=ZdU (Jp cl ins x) Ra.2
   have hjl:(Wf (Jp cl ins x)).length<=35184372088832:=by
    have:=Ra.2;revert this;cases Jp cl ins x with
    |nil=>simp[Wf]
    |cons a l=>simp only[Wf,Vd,List.length_cons,ze];omega
   generalize Jp cl ins x=X at hkx hjn hjl Rb⊢;conv=>whnf
   repeat'(first|refine CALL.value (Zz cl[x] hI) rfl rfl ?_|refine GET.at (row:=Z8 cl[x]) (YT hlt (by omega)) ?_|refine ud.mk (by simp;omega) ?_)<;>conv=>whnf
   refine CALL.aA [8] (hjn) ?_;rintro r O nx ⟨rfl,rfl,rfl⟩;conv=>whnf
   repeat'(first|refine ud.mk (by simp;omega) ?_|refine ud.mk ⟨KT.ok _,YW KT qj _⟩ ?_)<;>conv=>whnf
   have iw:x<ks.length:=by omega
   have o8:=Xu ks iw;have hold:=Zgb ks iw;have hnew:=Zgc ks iw;have Qn:=Uw ks x;have au:=Bn ks x;rw[hkx]at o8 hold hnew;generalize ZC (ks.take x)=F at o8 hold hnew Qn au⊢;have hg:=WO (b:=0) Qn F.length ((itoa cl[x]++ [10])++Wf X) (zn _);have hml:(kz (X0 0 F F.length)).length=F.length:=by show(VR KT qj _).length=_;unfold VR;rw[zj,BG Qn (zn _)]
   have pH:x< (oE ks cl.length x).length:=by rw[Zgh cL hx];exact hlt
   refine jx.A KT qj ((itoa cl[x]++ [10])++Wf X) (X0 0 F F.length) (fun i v hf=>?_) (fun hf=>?_)
   .have hm:(itoa cl[x]++ [10])++Wf X∈F:=by
     refine yu fun hm=>?_;rw[VT hf,yP (by rw[List.idxOf_lt_length_iff];exact hm)]at hg;cases hg
    have hv:=VT hf;rw[hg,yx (zy hm)]at hv;injection hv with hv;rw[Int.zero_add]at hv;have qo:=R6 cL hlt (hold hm);rw[z8 hm]at o8;subst hv;conv=>whnf
    repeat'(first|refine GET.at (row:=Z8 (oE ks cl.length x)[x]) (YT pH (by omega)) ?_|refine AU ?_|refine IW ?_ ?_<;>intro h<;>try omega)<;>conv=>whnf
    rw[Vu (x:=x) (by omega),qo];refine⟨x+1,by omega,by omega,?_⟩;rw[o8];conv=>whnf
    refine vY.trans (uZ.goes (uZ.jL 3 x 0 7 rfl (R8 oF (by omega)) rfl rfl (by rw[zj];exact zn _) (by decide))) ?_;rw[R9 oF (by omega)];exact vY.kA h0 [5,6]
   .have hm:(itoa cl[x]++ [10])++Wf X∉F:=fun hm=>by
     rw[VS hf,yx (zy hm)]at hg;cases hg
    have qo:=R6 cL hlt (hnew hm);rw[z6 hm]at o8;have Qo:=Zgg (b:=0) (A:=F) (k:=(itoa cl[x]++ [10])++Wf X);rw[Int.zero_add]at Qo;conv=>whnf
    repeat'(first|refine ud.mk ⟨KT.ok _,YW KT qj _⟩ ?_|refine GET.at (row:=Z8 (oE ks cl.length x)[x]) (YT pH (by omega)) ?_|refine AU ?_|refine IW ?_ ?_<;>intro h<;>try omega)<;>conv=>whnf
    first|rw[Hz]|rw[HA]
    rw[hml,<-Qo];rw[Vu (x:=x) (by omega),qo];refine⟨x+1,by omega,by omega,?_⟩;rw[o8];conv=>whnf
    refine vY.trans (uZ.goes (uZ.jL 3 x 0 7 rfl (R8 oF (by omega)) rfl rfl (by rw[zj];exact zn _) (by decide))) ?_;rw[R9 oF (by omega)];exact vY.kA h0 [5,6]
 .have mm:x=cl.length:=by simp at h1;omega
  subst mm;have hF:ks.take cl.length=ks:=zo (by omega);rw[Zgi cL,hF];have Qn:=Uw ks cl.length;rw[hF]at Qn;have hml:(kz (X0 0 (ZC ks) (ZC ks).length)).length=(ZC ks).length:=by show(VR KT qj _).length=_;unfold VR;rw[zj,BG Qn (zn _)]
  conv=>whnf
  repeat'(first|(show uK _ _ _ _ _ _ _;first|refine Zs 20 Z8X ?_))<;>conv=>whnf
  rw[hml];refine u9.aA h0 [6] (.bool (decide (ct< ((ZC ks).length:Int)))) [(0,lD 5 nl cl.length ins.length ng (ZC ks).length),(3, .deep false 1 (kV ins)),(5, .rows 1 ((XM ks).map Z8))] ⟨rfl,rfl,rfl⟩
inductive wR(ins:List (List Sd)):List Int->Int->List Int->Int->Prop
 |stop {cl:List Int} {ct:Int} (h:¬ct< ((ZC (XN cl ins)).length:Int)):wR ins cl ct (XM (XN cl ins)) (ZC (XN cl ins)).length
 |go {cl:List Int} {ct:Int} {F:List Int} {c:Int} (h:ct< ((ZC (XN cl ins)).length:Int)) (k:wR ins (XM (XN cl ins)) (ZC (XN cl ins)).length F c):wR ins cl ct F c
theorem wR.HU{ins:List (List Sd)}{cl:List Int}{ct:Int}{F F':List Int}{c c':Int}(h:wR ins cl ct F c)(h':wR ins cl ct F' c'):F'=F/\c'=c:=by
 induction h with
 |stop hn=>cases h' with
  |stop _=>exact⟨rfl,rfl⟩
  |go hy _=>exact(hn hy).elim
 |go hy _ ih=>cases h' with
  |stop hn=>exact(hn hy).elim
  |go _ k=>exact ih k
theorem nM.next{cl:List Int}{ins:List (List Sd)}(h:nM cl ins):nM (XM (XN cl ins)) ins/\(XM (XN cl ins)).length=cl.length/\(ZC (XN cl ins)).length<=cl.length:=by
 have hl:(XM (XN cl ins)).length=cl.length:=by rw[YX,Gq]
 have hf:=Bn (XN cl ins) cl.length;rw[zo (by rw[Gq];exact zn _)]at hf;have:=h.n;exact⟨⟨by rw[hl];exact h.len,fun c hc=>by have:=LV _ c hc;omega,by rw[hl];exact h.sd,h.few,by omega⟩,hl,hf⟩
theorem wR.ok{ins:List (List Sd)}{cl:List Int}{ct:Int}{F:List Int}{c:Int}(h:wR ins cl ct F c):nM cl ins->nM F ins/\F.length=cl.length/\(∀x∈F,0<=x/\x<c)/\0<=c/\c<=(cl.length:Int):=by
 induction h with
 |stop _=>exact fun hw=>⟨hw.next.1,hw.next.2.1,fun x hx=>LV _ x hx,by omega,by have:=hw.next.2.2;omega⟩
 |go _ _ ih=>exact fun hw=>let⟨a,b,c,d,e⟩:=ih hw.next.1;⟨a,b.trans hw.next.2.1,c,d,by rw[hw.next.2.1]at e;exact e⟩
theorem Z90(cl:List Int)(ins:List (List Sd))(nl ng:Nat)(ct:Int)(h:nM cl ins)(h0':0<=ct):
 vW prog uv 57 5 [.ptr (.loc 0) 0 0 0] [(0,lD 2 nl cl.length ins.length ng ct),(2, .rows 1 (cl.map Z8)),(3, .deep false 1 (kV ins))] []
 (fun r O nx=>r= .uI []/\∃F c,wR ins cl ct F c/\O=[(0,lD 5 nl cl.length ins.length ng c),(3, .deep false 1 (kV ins)),(5, .rows 1 (F.map Z8))]/\nx=6):=by
 refine vW.enter Z3 call57 func57 rfl 4 rfl rfl [] rfl ?_;intro w0 F η0 h0;conv=>whnf
 skip
 refine ua.j5 Z3 [0] [3] (X:=List Int×Int) (fun x=>nM x.1 ins/\x.1.length=cl.length/\0<=x.2/\∀F c,wR ins x.1 x.2 F c->wR ins cl ct F c) (fun x=>[]) (fun x=>[(0,lD 5 nl cl.length ins.length ng x.2),(5, .rows 1 (x.1.map Z8))]) 6 (fun x=>cl.length-x.2.toNat) (cl,ct) ⟨h,rfl,h0',fun F c hs=>hs⟩ ?_;conv=>whnf
 refine⟨by exact vY.kA h0 [2],?_⟩;rintro⟨C,k⟩ ⟨hW,hl,Cw,hS⟩;dsimp only at hW hl Cw hS⊢;have hsp:=Z8Z C ins nl ng k hW;rw[hl]at hsp;conv=>whnf
 skip
 refine CALL.aA [0,1,5,3,4] (hsp) ?_;rintro r O nx ⟨rfl,rfl,rfl⟩;conv=>whnf
 obtain⟨hW2,o9,hf2⟩:=hW.next;refine IF.mk (fun h1=>?_) (fun h1=>?_)
 .have h1:k< ((ZC (XN C ins)).length:Int):=by simpa using h1
  conv=>whnf
  refine⟨(XM (XN C ins),((ZC (XN C ins)).length:Int)),⟨hW2,by dsimp only;omega,by dsimp only;omega,fun F c hs=>hS F c (.go h1 hs)⟩,by dsimp only;omega,?_⟩;dsimp only;conv=>whnf
  exact vY.kA h0 [6]
 .have h1:¬k< ((ZC (XN C ins)).length:Int):=by simpa using h1
  conv=>whnf
  refine u9.aA h0 [6] (.uI []) [(0,lD 5 nl cl.length ins.length ng (ZC (XN C ins)).length),(3, .deep false 1 (kV ins)),(5, .rows 1 ((XM (XN C ins)).map Z8))] ⟨rfl,_,_,hS _ _ (.stop h1),rfl,rfl⟩
def Rc(l:List LB):List DC:=[.uC 1 (l.map Z9)]
def BH(out:List (List LB)):List (List DC):=out.map Rc
theorem Re:∀out:List (List LB),ZD (BH out)=true
 | []=>rfl
 |l::out=>by simp only[BH,zL,Rc,ZD,Yi,Jl,Zt,zS,xF];exact Re out
instance {out:List (List LB)}:bQ (BH out):=⟨Re out⟩
structure Rf(l:List Qd):Prop where
 few:l.length<=1048576
 tm:∀q∈l,jN 1048576 q.s/\jN 1048576 q.p/\jN 1048576 q.o/\jN 1048576 q.g
end Go.Proofs.YtlcbipfmodcedaaGreatDoor
