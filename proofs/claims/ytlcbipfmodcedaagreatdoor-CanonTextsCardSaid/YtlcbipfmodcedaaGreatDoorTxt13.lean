import Derived.Lib.ItoaLen
import Derived.Test.YtlcbipfmodcedaaGreatDoorTxt9
import Derived.Test.YtlcbipfmodcedaaGreatDoorTxt12
set_option linter.unusedVariables false
set_option linter.unusedSimpArgs false
set_option maxRecDepth 20000
set_option maxHeartbeats 8000000
namespace Go.Proofs.YtlcbipfmodcedaaGreatDoor
open Go.Sx Go.Our
def Tj(a b:List Qd):Int:=if(ZK a).2≠0 then(ZK a).2 else(ZK b).2
abbrev ZA(l:List Qd):List LB:=qI cmpL (ZE l)
abbrev kU(m:List (LB×Int)):List (List SV):=oo KT dw m
theorem ET(m:List (LB×Int)):Zp (kU m)=true:=ZjF KT _ (fun _=>rfl) m
instance {m:List (LB×Int)}:Pl (kU m):=⟨ET m⟩
theorem Tk{x:LB}{v:Int}{m:List (LB×Int)}:oD (false,[CK.str]) (fJ (SV.str x)) (SV.int .i64 v) (kU m)=kU (kO x v m):=BN KT dw x v m
theorem Tl{x:LB}{v:Int}{m:List (LB×Int)}:oD (false,[CK.str]) (fJ (SV.str x)) (Yy (.int .i64 v)) (kU m)=kU (kO x v m):=BN KT dw x v m
def VO(v:Int)(l:List LB)(m:List (LB×Int)):List (LB×Int):=l.foldl (fun m x=>kO x v m) m
end Go.Proofs.YtlcbipfmodcedaaGreatDoor
namespace Go.Proofs.YtlcbipfmodcedaaGreatDoor
open Go.Sx Go.Our
def Zg(n:Int):List SV:=[.int .i64 n]
theorem Vx(l:List Int):Zp (l.map Zg)=true:=ZH _ (fun _=>rfl) l
instance :PlF Zg:=⟨fun _=>rfl⟩
def fA(m:List (LB×Int))(x:LB):Int:=(jt x m).getD 0
theorem Fw{m:List (LB×Int)}{x:LB}{i:Nat}{v:Int}(h:fM x m=some (i,v)):fA m x=v:=by unfold fA;rw[Eh h];rfl
theorem ZlP(l:List Int)(v:Int){n:Nat}(hn:n=l.length):List.take n (l.map Zg)++List.take 1 (List.drop 0 [[SV.int .i64 v]])=(l++ [v]).map Zg:=by
 subst hn;rw[zi (by simp)];simp[Zg]
theorem EU{rs:List (List DC)}{r:Nat}{d:DC}{sv:SV}(h:rs[r]?=some [d]):nK (q9 rs r 0 (.v sv)) r 0=some (r, .v sv):=by
 unfold nK;rw[Ys,zh rfl,h];rfl
end Go.Proofs.YtlcbipfmodcedaaGreatDoor
namespace Go.Proofs.YtlcbipfmodcedaaGreatDoor
open Go.Sx Go.Our Go.Lib
open _root_.Go.Proofs.Tryz
def Zg2:Go.Shelf.Ren:=⟨fun|243=>77|246=>115|283=>152|284=>153|285=>154|286=>155|129=>151|317=>200|318=>201|319=>202|320=>203|337=>248|338=>249|n=>n,fun|3=>3|9=>9|2=>2|4=>4|171=>215|0=>0|53=>162|37=>52|5=>5|173=>217|212=>257|51=>157|20=>20|213=>258|46=>177|232=>57|233=>323|n=>n,fun|17=>2|18=>4|19=>5|n=>n⟩
theorem Zmv:Go.Proofs.LaysM.n243 prog Zg2 where
 mixed:=by kernel_rfl
 f129:=func151.trans (ze some (by kernel_rfl))
 f243:=func77.trans (ze some (by kernel_rfl))
 f246:=func115.trans (ze some (by kernel_rfl))
 f283:=func152.trans (ze some (by kernel_rfl))
 f284:=func153.trans (ze some (by kernel_rfl))
 f285:=func154.trans (ze some (by kernel_rfl))
 f286:=func155.trans (ze some (by kernel_rfl))
 f317:=func200.trans (ze some (by kernel_rfl))
 f318:=func201.trans (ze some (by kernel_rfl))
 f319:=func202.trans (ze some (by kernel_rfl))
 f320:=func203.trans (ze some (by kernel_rfl))
 f337:=func248.trans (ze some (by kernel_rfl))
 f338:=func249.trans (ze some (by kernel_rfl))
 t0:=underlying0
 a0:=isAgg0
 z0:=sizeOf0
 v0:=zeroValue0
 t2:=underlying2
 a2:=isAgg2
 z2:=sizeOf2
 v2:=zeroValue2
 t3:=underlying3
 a3:=isAgg3
 z3:=sizeOf3
 v3:=zeroValue3
 t4:=underlying4
 a4:=isAgg4
 z4:=sizeOf4
 v4:=zeroValue4
 t5:=underlying5
 a5:=isAgg5
 z5:=sizeOf5
 v5:=zeroValue5
 t9:=underlying9
 a9:=isAgg9
 z9:=sizeOf9
 v9:=zeroValue9
 t20:=underlying20
 a20:=isAgg20
 z20:=sizeOf20
 v20:=zeroValue20
 t37:=underlying52
 a37:=isAgg52
 z37:=sizeOf52
 v37:=zeroValue52
 t46:=underlying177
 a46:=isAgg177
 z46:=sizeOf177
 v46:=zeroValue177
 t51:=underlying157
 a51:=isAgg157
 z51:=sizeOf157
 v51:=zeroValue157
 t53:=underlying162
 a53:=isAgg162
 z53:=sizeOf162
 v53:=zeroValue162
 t171:=underlying215
 a171:=isAgg215
 z171:=sizeOf215
 v171:=zeroValue215
 t173:=underlying217
 a173:=isAgg217
 z173:=sizeOf217
 v173:=zeroValue217
 t212:=underlying257
 a212:=isAgg257
 z212:=sizeOf257
 v212:=zeroValue257
 t213:=underlying258
 a213:=isAgg258
 z213:=sizeOf258
 t232:=underlying57
 a232:=isAgg57
 z232:=sizeOf57
 v232:=zeroValue57
 t233:=underlying323
 a233:=isAgg323
 z233:=sizeOf323
 v233:=zeroValue323
 g17:=by kernel_rfl
 g18:=by kernel_rfl
 g19:=by kernel_rfl
 i0:=by kernel_rfl
 i2:=by kernel_rfl
 i3:=by kernel_rfl
 i4:=by kernel_rfl
 i5:=by kernel_rfl
 i9:=by kernel_rfl
 i20:=by kernel_rfl
 i37:=by kernel_rfl
 i46:=by kernel_rfl
 i51:=by kernel_rfl
 i53:=by kernel_rfl
 i171:=by kernel_rfl
 i173:=by kernel_rfl
 i212:=by kernel_rfl
 i232:=by kernel_rfl
 i233:=by kernel_rfl
 m17:=by kernel_rfl
 m18:=by kernel_rfl
 m19:=by kernel_rfl
def Fx(n:Int):Prop:= -9223372036854775808<=n/\n<=9223372036854775807
theorem ZdA(n:Int)(h:Fx n):uX prog wD 77 0 [.int .i64 n] [] [] (qd (.str (itoa n))):=
 Zg1 Zmv call77 (g:=2) (by kernel_rfl) (by kernel_rfl) n h.1 h.2
theorem AO(n:Int)(h:Fx n):uX prog wD 38 0 [.int .i64 n] [] [] (qd (.str (itoa n))):=by
 refine uX.enter Z0 call38 func38 rfl 5 rfl rfl [.tmp 2] rfl ?_;intro w0 F η0 h0;conv=>whnf
 repeat'(first|refine CALL.value (ZdA n h) rfl rfl ?_)<;>conv=>whnf
 exact wh.value h0 rfl rfl
def aU(N:Nat)(t:Tm):Prop:=t.t.length+t.y.length+t.l.length<=N/\Fx t.k
def JU(s:LB):LB:=(([61]++itoa (s.length:Int))++ [58])++s
end Go.Proofs.YtlcbipfmodcedaaGreatDoor
namespace Go.Proofs.YtlcbipfmodcedaaGreatDoor
open Go.Sx Go.Our
def Xt(b:Int)(A:List LB):Nat->List (LB×Int)
 |0=>[]
 |i+1=>match A[i]? with
  |some x=>kO x (b+i) (Xt b A i)
  |none=>Xt b A i
theorem AP{b:Int}{A:List LB}{i:Nat}(h:i<A.length):Xt b A (i+1)=kO A[i] (b+i) (Xt b A i):=by
 rw[Xt,z1 h]
theorem QC{b:Int}{A:List LB}(hn:A.Nodup):∀(n:Nat) (x:LB),n<=A.length->jt x (Xt b A n)=if h:A.idxOf x<n then some (b+(A.idxOf x:Nat))else none
 |0,x,_=>by simp[Xt,jt]
 |n+1,x,h=>by
  rw[AP (by omega),BL,QC hn n x (by omega)];have hidx:A.idxOf A[n]=n:=hn.idxOf_getElem n (by omega);by_cases e:x=A[n]
  .subst e;rw[zh rfl,yg (by omega),hidx]
  .rw[z7 e]
   have hne:A.idxOf x≠n:=fun h2=>e (by
    have hlt:A.idxOf x<A.length:=by omega
    have:=x7 hlt
    rw[<-this];congr 1)
   by_cases h3:A.idxOf x<n
   rw[yg h3,yg (by omega)];rw[yK h3,yK (by omega)]
def nX(b:Int)(A:List LB)(x:LB):Int:=if x∈A then b+(A.idxOf x:Nat)else 0
theorem Fy{b:Int}{A:List LB}(hn:A.Nodup):fA (Xt b A A.length)=nX b A:=by
 funext x;unfold fA nX;rw[QC hn _ x (zo _)];by_cases h:x∈A
 rw[yg (yA h),zh h];rfl;rw[yK (by rw[List.idxOf_lt_length_iff];exact h),z7 h];rfl
theorem ZlQ(G:List Qd)(q:Qd){n:Nat}(hn:n=G.length):List.take n (G.map Z4)++List.take 1 (List.drop 0 [[.int .i64 q.s.k, .str q.s.t, .str q.s.y, .str q.s.l, .int .i64 q.p.k, .str q.p.t, .str q.p.y, .str q.p.l, .int .i64 q.o.k, .str q.o.t, .str q.o.y, .str q.o.l, .int .i64 q.g.k, .str q.g.t, .str q.g.y, .str q.g.l]])=(G++ [q]).map Z4:=by
 subst hn;rw[zi (by simp),yj]
 rfl
theorem UN{l c:Int}{b:Nat}(B:Nat)(hb:Nat.ble b B=true)(h1:0<=l)(h2:l<=c)(h3:c<=9223372036854775807)(h4:B*c<=281474976710656):0<=l/\l<=c/\c<=9223372036854775807/\(b:Int)*c<=281474976710656:=
 ⟨h1,h2,h3,uJ (vr (by exact_mod_cast zT hb) (uJ h1 h2)) h4⟩
end Go.Proofs.YtlcbipfmodcedaaGreatDoor
namespace Go.Proofs.YtlcbipfmodcedaaGreatDoor
open Go.Sx Go.Our Go.Sort Go.Shelf
open _root_.Go.Proofs.Tryz
def I3:wP:=(Zr [(0,1),(1,1),(2,1),(4,1),(5,1),(6,1),(7,1),(3,2),(8,2),(9,1)])
theorem Z7K(l:List Int)(hl:l.length*8<=140741783322624):uX prog wD 108 1 [.sl (.loc 0) 0 1 l.length none] [(0, .rows 1 (l.map Zg))] []
 (fun r O nx=>r= .sl (.loc 0) 0 1 (Z6 l).length none/\O=[(0, .rows 1 ((Z6 l++List.replicate (l.length-(Z6 l).length) (0:Int)).map Zg))]/\nx=1):=by
 have fin:∀{m:Nat},m=(Z6 l).length->Z6 l=l->(SV.sl (.loc 0) 0 1 l.length none=SV.sl (.loc 0) 0 1 (Z6 l).length none)/\l.map Zg=(Z6 l++List.replicate (l.length-(Z6 l).length) (0:Int)).map Zg:=fun hm he=>by
  rw[he];simp
 refine uX.enter Z0 call108 func108 rfl 61 rfl rfl [.tmp 2] rfl ?_;intro w0 F η0 h0;conv=>whnf
 refine IF.mk (fun h=>?_) (fun h=>?_)
 .have h:l.length<2:=by simp at h;omega
  obtain⟨f1,f2⟩:=fin rfl (BJ h);conv=>whnf
  rw[f1,f2];refine wh.here h0 (rc:= .sl (.loc 0) 0 1 (Z6 l).length none) (Oc:=[(0, .rows 1 ((Z6 l++List.replicate (l.length-(Z6 l).length) (0:Int)).map Zg))]) rfl rfl (by first|rfl|(simp only[Zj,Zi,Z2 _ (Vx _),zD,zG]<;>rfl)) ⟨rfl,trivial⟩ ⟨rfl,rfl,rfl⟩
 have h2:2<=l.length:=by simp at h;omega
 clear h;conv=>whnf
 refine wj.go Z0 [0] (X:=Nat) (fun k=>1<=k/\k<=l.length/\Z6 (l.take k)=l.take k) (fun k=>[(3, .int .i64 (k:Int))]) (fun k=>[(0, .rows 1 (l.map Zg))]) 1 (fun k=>l.length-k) 1 ⟨by omega,by omega,Ry⟩ ?_;conv=>whnf
 refine⟨by exact w5.cA h0,?_⟩;rintro k ⟨l6,pz,hk⟩;conv=>whnf
 rcases y9 k l.length with hlt|hge
 .have hs:=JG l6 hlt;have hk':(IntKind.i64.wrap ((k:Int)-1)).toNat=k-1:=by rw[Z5 (by omega) (by omega)];omega
  repeat'(first|refine Z3 6 I3 ?_|refine GET.at (row:=Zg (l[k]'(by omega))) (Vb (by omega) (by omega)) ?_|refine GET.at (row:=Zg (l[k-1]'(by omega))) (Vb (by omega) (by omega)) ?_|refine AU ?_|refine IW ?_ ?_<;>intro h<;>try omega)<;>conv=>whnf
  .have heq:l[k]=l[k-1]:=id (h);rw[zh heq,hk]at hs;have hs0:(Z6 (l.take (k+1))).length=k:=by rw[hs];simp;omega
   clear h heq;refine wj.go Z0 [0,4] (X:=Nat) (fun i=>k+1<=i/\i<=l.length/\(Z6 (l.take i)).length+1<=i/\k<=(Z6 (l.take i)).length) (fun i=>[(3, .int .i64 ((Z6 (l.take i)).length:Int)),(5, .int .i64 ((i-k:Nat):Int))]) (fun i=>[(0, .rows 1 ((Z6 (l.take i)++l.drop (Z6 (l.take i)).length).map Zg))]) 1 (fun i=>l.length-i) (k+1) ⟨by omega,by omega,by omega,by omega⟩ ?_;conv=>whnf
   refine⟨by(refine w5.qn h0 rfl rfl rfl (by first|rfl|(simp only[Zj,Zi,Z2 _ (Vx _),zD,zG]<;>rfl)) ?_ ?_<;>(repeat'(first|(with_reducible rfl)|(exact Ya rfl (by first|(simp;done)|omega|(simp;omega)))|(exact ze (SV.int _) (by first|omega|(simp(disch:=omega) only[qL,Z5,Zn]<;>omega)|(simp;done)|(simp<;>omega)))|(exact ze (Hp.rows _) (by(rw[hs,zu,yQ pz,yM])))|((conv=>whnf);refine⟨?_,?_⟩)|exact trivial|rfl))),?_⟩;rintro i ⟨hi1,hi2,AF,hi4⟩;obtain⟨C,hC⟩:∃C,C=Z6 (l.take i):=⟨_,rfl⟩;have hsi:=fun h=>JG (l:=l) (i:=i) (by omega) h;rw[<-hC]at AF hi4 hsi;dsimp only;rw[<-hC];conv=>whnf
   rcases y9 i l.length with hil|hil
   .have hsi:=hsi hil;have hwr:IntKind.i64.wrap (((i-k:Nat):Int)-1)=((i-1-k:Nat):Int):=by rw[Z5 (by omega) (by omega)];omega
    have hg1:((C++l.drop C.length).map Zg)[i]?=some (Zg l[i]):=Kt Zg (by omega) hil;have hg2:((C++l.drop C.length).map Zg)[i-1]?=some (Zg (l[i-1]'(by omega))):=Kt Zg (by omega) (by omega);have hg3:((C++l.drop C.length).map Zg)[C.length]?=some (Zg (l[C.length]'(by omega))):=Kt Zg (zo _) (by omega);repeat'(first|refine Z3 11 I3 ?_|refine GET.at (row:=Zg (l[i]'(by omega))) (Ku hg1 (by omega)) ?_|refine GET.at (row:=Zg (l[i-1]'(by omega))) (Ku hg2 (by rw[hwr];omega)) ?_|refine GET.at (row:=Zg (l[C.length]'(by omega))) (Ku hg3 (by omega)) ?_|refine AU ?_|refine IW ?_ ?_<;>intro h<;>try omega)<;>conv=>whnf
    .have hne:¬l[i]=l[i-1]'(by omega):=fun he=>by rw[he]at h;simp at h
     rw[z7 hne]at hsi;refine⟨i+1,⟨by omega,by omega,by rw[hsi,zg];simp;omega,by rw[hsi,zg];simp;omega⟩,by omega,?_⟩;rw[hsi];conv=>whnf
     (refine w5.qn h0 rfl rfl rfl (by first|rfl|(simp only[Zj,Zi,Z2 _ (Vx _),zD,zG]<;>rfl)) ?_ ?_<;>(repeat'(first|(with_reducible rfl)|(exact Ya rfl (by first|(simp;done)|omega|(simp;omega)))|(exact ze (SV.int _) (by first|omega|(simp(disch:=omega) only[qL,Z5,Zn]<;>omega)|(simp;done)|(simp<;>omega)))|(exact ze (Hp.rows _) (by(first|(simp only[zy,Int.toNat_natCast];exact T8 Zg _ (by omega))|rfl)))|((conv=>whnf);refine⟨?_,?_⟩)|exact trivial|rfl)))
    .have heq:l[i]=l[i-1]'(by omega):=id (h);rw[zh heq]at hsi;refine⟨i+1,⟨by omega,by omega,by rw[hsi];omega,by rw[hsi];omega⟩,by omega,?_⟩;rw[hsi];conv=>whnf
     exact w5.cA h0
   .have tR:C=Z6 l:=by rw[hC,zi hil]
    have jm:C.length<=l.length:=by omega
    repeat'(first|refine wm.mk (by simp only[zA,zg,zF];omega) ?_|refine wm.mk ⟨by omega,GI (by omega)⟩ ?_|refine AU ?_|refine IW ?_ ?_<;>intro h<;>try omega)<;>conv=>whnf
    rw[<-tR];refine wh.here h0 (rc:= .sl (.loc 0) 0 1 C.length none) (Oc:=[(0, .rows 1 ((C++List.replicate (l.length-C.length) (0:Int)).map Zg))]) (by simp) rfl (by first|rfl|(simp only[Zj,Zi,Z2 _ (Vx _),zD,zG]<;>rfl)) ⟨?_,trivial⟩ ⟨rfl,rfl,rfl⟩;refine ze (Hp.rows 1) ?_;simp only[zy,Int.toNat_natCast];exact T9 Zg (0:Int) jm
  .have hne:¬l[k]=l[k-1]:=fun he=>by rw[he]at h;simp at h
   rw[z7 hne,hk]at hs;refine⟨k+1,⟨by omega,by omega,by rw[hs,zH hlt]⟩,by omega,?_⟩;conv=>whnf
   exact w5.cA h0
 .have hkn:k=l.length:=by omega
  rw[hkn,zi (zo _)]at hk;obtain⟨f1,f2⟩:=fin rfl hk;repeat'(first|refine IW ?_ ?_<;>intro h<;>try omega)<;>conv=>whnf
  rw[f1,f2];refine wh.here h0 (rc:= .sl (.loc 0) 0 1 (Z6 l).length none) (Oc:=[(0, .rows 1 ((Z6 l++List.replicate (l.length-(Z6 l).length) (0:Int)).map Zg))]) rfl rfl (by first|rfl|(simp only[Zj,Zi,Z2 _ (Vx _),zD,zG]<;>rfl)) ⟨rfl,trivial⟩ ⟨rfl,rfl,rfl⟩
def ZdI:Go.Shelf.Ren:=⟨fun|189=>139|125=>114|257=>191|128=>150|129=>151|294=>231|295=>232|296=>233|297=>234|298=>235|299=>236|216=>237|300=>238|301=>239|328=>277|329=>196|330=>197|331=>278|332=>279|215=>136|343=>303|n=>n,fun|28=>72|3=>3|46=>177|0=>0|51=>157|53=>162|4=>4|183=>208|182=>207|131=>103|5=>5|9=>9|218=>250|222=>87|228=>292|229=>130|n=>n,fun|n=>n⟩
theorem Zm0:Go.Proofs.Lays.n189 prog ZdI where
 mixed:=by kernel_rfl
 f125:=func114.trans (ze some (by kernel_rfl))
 f128:=func150.trans (ze some (by kernel_rfl))
 f129:=func151.trans (ze some (by kernel_rfl))
 f189:=func139.trans (ze some (by kernel_rfl))
 f215:=func136.trans (ze some (by kernel_rfl))
 f216:=func237.trans (ze some (by kernel_rfl))
 f257:=func191.trans (ze some (by kernel_rfl))
 f294:=func231.trans (ze some (by kernel_rfl))
 f295:=func232.trans (ze some (by kernel_rfl))
 f296:=func233.trans (ze some (by kernel_rfl))
 f297:=func234.trans (ze some (by kernel_rfl))
 f298:=func235.trans (ze some (by kernel_rfl))
 f299:=func236.trans (ze some (by kernel_rfl))
 f300:=func238.trans (ze some (by kernel_rfl))
 f301:=func239.trans (ze some (by kernel_rfl))
 f328:=func277.trans (ze some (by kernel_rfl))
 f329:=func196.trans (ze some (by kernel_rfl))
 f330:=func197.trans (ze some (by kernel_rfl))
 f331:=func278.trans (ze some (by kernel_rfl))
 f332:=func279.trans (ze some (by kernel_rfl))
 f343:=func303.trans (ze some (by kernel_rfl))
 t0:=underlying0
 a0:=isAgg0
 z0:=sizeOf0
 v0:=zeroValue0
 t3:=underlying3
 a3:=isAgg3
 z3:=sizeOf3
 v3:=zeroValue3
 t4:=underlying4
 a4:=isAgg4
 z4:=sizeOf4
 v4:=zeroValue4
 t5:=underlying5
 a5:=isAgg5
 z5:=sizeOf5
 v5:=zeroValue5
 t9:=underlying9
 a9:=isAgg9
 z9:=sizeOf9
 v9:=zeroValue9
 t28:=underlying72
 a28:=isAgg72
 z28:=sizeOf72
 v28:=zeroValue72
 t46:=underlying177
 a46:=isAgg177
 z46:=sizeOf177
 v46:=zeroValue177
 t51:=underlying157
 a51:=isAgg157
 z51:=sizeOf157
 v51:=zeroValue157
 t53:=underlying162
 a53:=isAgg162
 z53:=sizeOf162
 v53:=zeroValue162
 t131:=underlying103
 a131:=isAgg103
 z131:=sizeOf103
 v131:=zeroValue103
 t182:=underlying207
 a182:=isAgg207
 z182:=sizeOf207
 v182:=zeroValue207
 t183:=underlying208
 a183:=isAgg208
 z183:=sizeOf208
 v183:=zeroValue208
 t218:=underlying250
 a218:=isAgg250
 z218:=sizeOf250
 v218:=zeroValue250
 t222:=underlying87
 a222:=isAgg87
 z222:=sizeOf87
 v222:=zeroValue87
 t228:=underlying292
 a228:=isAgg292
 z228:=sizeOf292
 v228:=zeroValue292
 t229:=underlying130
 a229:=isAgg130
 z229:=sizeOf130
 v229:=zeroValue130
theorem ZdJ(l:List Int)(hl:l.length*8<=140737488351232):uX prog wD 139 1 [.sl (.loc 0) 0 1 l.length none] [(0, .rows 1 (l.map Zg))] []
 (fun r O nx=>r= .wM []/\O=[(0, .rows 1 ((l.mergeSort (kK qF)).map Zg))]/\nx=1):=
 Z9E Zm0 call139 l (by omega)
end Go.Proofs.YtlcbipfmodcedaaGreatDoor
namespace Go.Proofs.YtlcbipfmodcedaaGreatDoor
open Go.Sx Go.Our Go.Lib
open _root_.Go.Proofs.Tryz
theorem Is(least k:Nat)(hk:k<4611686018427387904)(hle:least<=4):uX prog wD 116 0 [.int .i64 (k:Int), .int .i64 (least:Int)] [] [] (qd (.str (dV least k []))):=by
 refine uX.enter Z0 call116 func116 rfl 25 rfl rfl [.tmp 4] rfl ?_;intro w0 F η0 h0;conv=>whnf
 refine wj.go Z0 [1] (X:=Nat×List UInt8) (fun x=>x.1<=k/\x.2.length+x.1<=k+4/\dV least x.1 x.2=dV least k []) (fun x=>[(0, .int .i64 (x.1:Int)),(5, .str x.2)]) (fun _=>[]) 0 (fun x=>x.1+(least-x.2.length)) (k,[]) ⟨zo _,by simp,rfl⟩ ?_;conv=>whnf
 refine⟨by exact w5.cA h0,?_⟩;rintro⟨n,s⟩ ⟨hn,hs,hd⟩;dsimp only at hn hs hd;have h1:(n:Int).tmod 10=((n%10:Nat):Int):=by rw[xW (by omega)];omega
 have h2:(n:Int).tdiv 10=((n/10:Nat):Int):=by rw[yZ (by omega)];omega
 have h3:IntKind.u8.wrap (IntKind.i64.wrap (48+(n:Int).tmod 10))=(((UInt8.ofNat (48+n%10)).toNat:Nat):Int):=by
  rw[h1,Z5 (by omega) (by omega),IntWalk.u8_in _ ⟨by omega,by omega⟩,vt];omega
 have h4:IntKind.i64.wrap ((n:Int).tdiv 10)=((n/10:Nat):Int):=by rw[h2,Z5 (by omega) (by omega)]
 have hc:([[SV.int IntKind.u8 (IntKind.u8.wrap (IntKind.i64.wrap (48+(n:Int).tmod 10)))]]:List (List SV))=[UInt8.ofNat (48+n%10)].map Go.Sx.bytesRow:=by rw[h3];rfl
 conv=>whnf
 repeat'(first|refine wm.mk ⟨rfl,_,hc⟩ ?_|refine wm.mk (by simp;omega) ?_|refine AU ?_|refine IW ?_ ?_<;>intro h<;>try omega)<;>conv=>whnf
 .have hb:List.map iy (List.take 1 (List.drop 0 [[SV.int IntKind.u8 (IntKind.u8.wrap (IntKind.i64.wrap (48+(n:Int).tmod 10)))]]))=[UInt8.ofNat (48+n%10)]:=by
   rw[h3];show [UInt8.ofNat (((UInt8.ofNat (48+n%10)).toNat:Nat):Int).toNat]=_
   rw[Int.toNat_natCast,UInt8.ofNat_toNat]
  have mq:0<n\/s.length<least:=by simp at h;omega
  refine⟨(n/10,[UInt8.ofNat (48+n%10)]++s),⟨by dsimp only;omega,by simp;omega,?_⟩,by simp;omega,?_⟩
  .dsimp only;rw[<-hd,<-Zib mq];rfl
  .dsimp only;rw[h4,hb];conv=>whnf
   exact w5.cA h0
 .have hn0:n=0/\least<=s.length:=by simp at h;omega
  refine wh.value h0 rfl (ze SV.str ?_);rw[<-hd,hn0.1,Zks hn0.2]
def rF(L:List Int):List (Int×Int):=L.map fun k=>(k,1)
theorem It(c:Int):∀L:List Int,kO c 1 (rF L)=rF (if c∈L then L else L++ [c])
 | []=>by simp[rF,kO]
 |k::L=>by
  have ih:=It c L;unfold rF at ih⊢;rw[zI];unfold kO;by_cases e:c=k
  subst e;simp
  .rw[z7 e,ih];by_cases h:c∈L
   rw[zh h,zh (zV _ h)];rfl;rw[z7 h,z7 (fun h2=>(zK.1 h2).elim e h)];rfl
theorem ZmG(L:List Int):Zp (oo KI (SV.int .i64) (rF L))=true:=ZjF KI _ (fun _=>rfl) _
instance {L:List Int}:Pl (oo KI (SV.int .i64) (rF L)):=⟨ZmG L⟩
theorem Iu(cl:List Int)(lim:Option Nat)(hc:cl.length<=1048576):uX prog wD 69 1 [.sl (.loc 0) 0 1 cl.length lim] [] [(0, .rows 1 (cl.map Zg))] (fun r O nx=>r= .int .i64 (kj cl:Int)/\O=[]/\nx=1):=by
 refine uX.enter Z0 call69 func69 rfl 19 rfl rfl [.tmp 2] rfl ?_;intro w0 F η0 h0;conv=>whnf
 skip
 refine wj.jD Z0 [0,3] [] (X:=Nat) (fun i=>i<=cl.length) (fun i=>[(4, .int .i64 (i:Int))]) (fun i=>[(1, .mp (oo KI (SV.int .i64) (rF (XP (cl.take i)))))]) 2 (fun i=>cl.length-i) 0 (by omega) ?_;conv=>whnf
 refine⟨by exact w5.kA h0 [1],?_⟩;intro i hi;have hfl:=RC cl i;conv=>whnf
 by_cases hil:i<cl.length
 .have hs:=BQ cl hil;have ku:=(BN KI (SV.int .i64) cl[i] 1 (rF (XP (cl.take i)))).trans (by rw[It,<-hs]);have gC:∀{k:Nat},k=i->(cl.map Zg)[k]?=some (Zg cl[i]):=fun e=>by subst e;rw[z6,z1 hil];rfl
  repeat'(first|refine GET.at (gC (by omega)) ?_|refine wm.mk ⟨KI.ok _,VL KI _ _⟩ ?_|refine AU ?_|refine IW ?_ ?_<;>intro h<;>try omega)<;>conv=>whnf
  rw[show oD (false,[CK.int IntKind.i64]) (fJ (SV.int .i64 cl[i])) (Yy (Value.int .i64 1)) (oo KI (SV.int .i64) (rF (XP (cl.take i))))=oo KI (SV.int .i64) (rF (XP (cl.take (i+1))))from ku];refine⟨i+1,by omega,by omega,?_⟩;conv=>whnf
  exact w5.kA h0 [1]
 .repeat'(first|refine IW ?_ ?_<;>intro h<;>try omega)<;>conv=>whnf
  have hie:i=cl.length:=by omega
  subst hie;rw[zX,show(oo KI (SV.int .i64) (rF (XP cl))).length=kj cl from by simp[oo,rF,kj]];exact wh.aA h0 [] (.int .i64 (kj cl:Int)) [] ⟨rfl,rfl,rfl⟩
