import Derived.Test.YtlcbipfmodcedaaGreatDoorTxt6
set_option linter.unusedVariables false
set_option linter.unusedSimpArgs false
set_option maxRecDepth 20000
set_option maxHeartbeats 8000000
namespace Go.Proofs.YtlcbipfmodcedaaGreatDoor
open Go.Sx Go.Our
theorem Jn{l z:List Qd}{i:Nat}(h:i<l.length):((l++z).map Z4)[i]?=some (Z4 l[i]):=by
 rw[z6,zn h,z1 h];rfl
end Go.Proofs.YtlcbipfmodcedaaGreatDoor
namespace Go.Proofs.YtlcbipfmodcedaaGreatDoor
open Go.Sx Go.Our Go.Sort Go.Shelf
open _root_.Go.Proofs.Tryz
theorem Kt{K:Type}(f:K->List SV){C l:List K}{j:Nat}(h1:C.length<=j)(h2:j<l.length):((C++l.drop C.length).map f)[j]?=some (f l[j]):=by
 rw[z6,zx h1,y8,show C.length+(j-C.length)=j by omega,z1 h2];rfl
theorem T8{K:Type}(f:K->List SV){C l:List K}(x:K)(h:C.length<l.length):((C++l.drop C.length).map f).set C.length (f x)=((C++ [x])++l.drop (C++ [x]).length).map f:=by
 rw[LH,xh _ _ (zo _),xS,zq h,List.set_cons_zero];simp
theorem T9{K:Type}(f:K->List SV){C l:List K}(z:K)(h:C.length<=l.length):((C++l.drop C.length).map f).take C.length++List.replicate (l.length-C.length) (f z)++((C++l.drop C.length).map f).drop (C.length+(l.length-C.length))=(C++List.replicate (l.length-C.length) z).map f:=by
 have h1:((C++l.drop C.length).map f).length=l.length:=by simp;omega
 rw[u7 (l:=(C++l.drop C.length).map f) (by omega),zO,yj,yj,x8,xk (by simp),zi (by simp)]
theorem Ku{rs:List (List SV)}{i j:Nat}{row:List SV}(h:rs[i]?=some row)(e:j=i):rs[j]?=some row:=e▸h
theorem ZaP(l z:List Qd)(lim:Option Nat)(hl:l.length*224<=140741783322624):uX prog wD 74 1 [.sl (.loc 0) 0 16 l.length lim] [] [(0, .rows 16 ((l++z).map Z4))]
 (fun r O nx=>r= .sl (.loc 1) 0 16 l.length none/\O=[(1, .rows 16 (l.map Z4))]/\nx=2):=by
 refine uX.enter Z0 call74 func74 rfl 8 rfl rfl [.tmp 2] rfl ?_;intro w0 F η0 h0;conv=>whnf
 repeat'(first|rw[ZeT]|refine wm.mk (Zm 224 rfl rfl (by simp) (by simp) (by omega)) ?_|((with_reducible refine sU.mk (fun h=>?_) ?_)<;>try omega))<;>conv=>whnf
 .have:l=[]:=zJ.1 h;subst this;refine wh.nil 16 ?_;exact wh.rows h0 1 16 0 rfl rfl rfl rfl ⟨rfl,rfl,rfl⟩
 .rw[zy];exact wh.rows h0 2 16 l.length rfl rfl rfl (Zy _) ⟨rfl,rfl,rfl⟩
def ZfX:Go.Shelf.Ren:=⟨fun|6=>75|15=>114|14=>113|28=>150|29=>151|20=>142|21=>143|22=>144|23=>145|24=>146|25=>147|26=>148|27=>149|46=>195|47=>196|48=>197|49=>198|50=>199|57=>247|n=>n,fun|22=>22|24=>67|25=>105|3=>3|39=>177|0=>0|53=>157|55=>162|4=>4|46=>208|45=>207|50=>103|5=>5|9=>9|66=>250|70=>87|76=>292|77=>130|n=>n,fun|n=>n⟩
theorem Ta:Go.Proofs.SlLaysF0.n6 prog ZfX where
 mixed:=by kernel_rfl
 f6:=⟨f75.name,by decide,func75.trans (ze some (by kernel_rfl))⟩
 f14:=⟨f113.name,by decide,func113.trans (ze some (by kernel_rfl))⟩
 f15:=func114.trans (ze some (by kernel_rfl))
 f20:=⟨f142.name,by decide,func142.trans (ze some (by kernel_rfl))⟩
 f21:=⟨f143.name,by decide,func143.trans (ze some (by kernel_rfl))⟩
 f22:=⟨f144.name,by decide,func144.trans (ze some (by kernel_rfl))⟩
 f23:=⟨f145.name,by decide,func145.trans (ze some (by kernel_rfl))⟩
 f24:=⟨f146.name,by decide,func146.trans (ze some (by kernel_rfl))⟩
 f25:=⟨f147.name,by decide,func147.trans (ze some (by kernel_rfl))⟩
 f26:=⟨f148.name,by decide,func148.trans (ze some (by kernel_rfl))⟩
 f27:=⟨f149.name,by decide,func149.trans (ze some (by kernel_rfl))⟩
 f28:=func150.trans (ze some (by kernel_rfl))
 f29:=func151.trans (ze some (by kernel_rfl))
 f46:=⟨f195.name,by decide,func195.trans (ze some (by kernel_rfl))⟩
 f47:=func196.trans (ze some (by kernel_rfl))
 f48:=func197.trans (ze some (by kernel_rfl))
 f49:=⟨f198.name,by decide,func198.trans (ze some (by kernel_rfl))⟩
 f50:=⟨f199.name,by decide,func199.trans (ze some (by kernel_rfl))⟩
 f57:=⟨f247.name,by decide,func247.trans (ze some (by kernel_rfl))⟩
 t0:=underlying0
 a0:=isAgg0
 z0:=sizeOf0
 v0:=zeroValue0
 t3:=underlying3
 a3:=isAgg3
 z3:=sizeOf3
 v3:=zeroValue3
 t4:=underlying4
 a4:=isAgg4
 z4:=sizeOf4
 v4:=zeroValue4
 t5:=underlying5
 a5:=isAgg5
 z5:=sizeOf5
 v5:=zeroValue5
 t9:=underlying9
 a9:=isAgg9
 z9:=sizeOf9
 v9:=zeroValue9
 t22:=underlying22
 a22:=isAgg22
 z22:=sizeOf22
 v22:=zeroValue22
 t25:=underlying105
 a25:=isAgg105
 z25:=sizeOf105
 v25:=zeroValue105
 t39:=underlying177
 a39:=isAgg177
 z39:=sizeOf177
 v39:=zeroValue177
 t45:=underlying207
 a45:=isAgg207
 z45:=sizeOf207
 v45:=zeroValue207
 t46:=underlying208
 a46:=isAgg208
 z46:=sizeOf208
 v46:=zeroValue208
 t50:=underlying103
 a50:=isAgg103
 z50:=sizeOf103
 v50:=zeroValue103
 t53:=underlying157
 a53:=isAgg157
 z53:=sizeOf157
 v53:=zeroValue157
 t55:=underlying162
 a55:=isAgg162
 z55:=sizeOf162
 v55:=zeroValue162
 t66:=underlying250
 a66:=isAgg250
 z66:=sizeOf250
 v66:=zeroValue250
 t70:=underlying87
 a70:=isAgg87
 z70:=sizeOf87
 v70:=zeroValue87
 t76:=underlying292
 a76:=isAgg292
 z76:=sizeOf292
 v76:=zeroValue292
 t77:=underlying130
 a77:=isAgg130
 z77:=sizeOf130
 v77:=zeroValue130
abbrev dU(s:List UInt8):Value:= .string ⟨s.toArray⟩
def Fu(q:Qd):List Value:=[.int .i64 q.s.k,dU q.s.t,dU q.s.y,dU q.s.l, .int .i64 q.p.k,dU q.p.t,dU q.p.y,dU q.p.l, .int .i64 q.o.k,dU q.o.t,dU q.o.y,dU q.o.l, .int .i64 q.g.k,dU q.g.t,dU q.g.y,dU q.g.l]
instance :Inhabited Tm:=⟨YN⟩
instance :Inhabited Qd:=⟨ZmH⟩
theorem EL{K:Type}(c:K->K->Int)(x y:K):ltOf c x y=decide (c x y<0):=rfl
theorem ZlK{K:Type}{c:K->K->Int}(h:jH c):SWO (ltOf c) where
 irrefl x:=by rw[EL,h.self];rfl
 trans x y z h1 h2:=by rw[EL]at*;simp only[yy]at*;exact h.lt_trans h1 (by omega)
 ntrans x y z h1 h2:=by
  rw[EL]at*;simp only[ym]at*;intro hc;have:=h.anti x y;have:=h.anti y z;have:=h.anti x z;have:=h.trans z y x (by omega) (by omega);omega
theorem ZlL{K:Type}{c:K->K->Int}(h:jH c)(x y:K)(h1:ltOf c x y=false)(h2:ltOf c y x=false):x=y:=by
 rw[EL]at*;simp only[ym]at*;have:=h.anti x y;exact(h.zero x y).1 (by omega)
theorem ZhG{J:Env}:∀{vs us:List Value} {cs:List SV},w6 J cs vs->w6 J cs us->nP cs=true->vs=us:=fun h h' hd=>aJ.of hd _ _ _ h h'
theorem Tb(l:List Qd)(hl:l.length*224<=140741783322624):uX prog wD 75 1 [.sl (.loc 0) 0 16 l.length none, .fn (.func 47) [] []] [(0, .rows 16 (l.map Z4))] []
 (fun r O nx=>r= .wM []/\O=[(0, .rows 16 ((l.mergeSort (kK ZM)).map Z4))]/\nx=1):=by
 have hrow:∀(J:Env) (q:Qd),w6 J (Z4 q) (Fu q)/\∀u∈Fu q,u.oneCell'=true:=fun J q=>by
  refine⟨by simp only[Z4,Fu,w6,Den];exact⟨_,_,rfl,rfl,_,_,rfl,rfl,_,_,rfl,rfl,_,_,rfl,rfl,_,_,rfl,rfl,_,_,rfl,rfl,_,_,rfl,rfl,_,_,rfl,rfl,_,_,rfl,rfl,_,_,rfl,rfl,_,_,rfl,rfl,_,_,rfl,rfl,_,_,rfl,rfl,_,_,rfl,rfl,_,_,rfl,rfl,_,_,rfl,rfl,rfl⟩,fun u hu=>?_⟩;simp only[Fu,zK,xA,uw]at hu;rcases hu with rfl|rfl|rfl|rfl|rfl|rfl|rfl|rfl|rfl|rfl|rfl|rfl|rfl|rfl|rfl|rfl<;>rfl
 exact Z7n (enc:=Fu) (k:=16) (row:=Z4) (cf:=ZM) Z0 Ta Ta (fun w=>by kernel_rfl) (fun w=>by kernel_rfl) (fun q=>⟨rfl,rfl⟩) (by omega) (ZlK jP) (ZlL jP) rfl (fun x y=>A0 x y) call47 call75 hrow (fun J x vs h=>ZhG h (hrow J x).1 rfl) l (by omega)
end Go.Proofs.YtlcbipfmodcedaaGreatDoor
namespace Go.Proofs.YtlcbipfmodcedaaGreatDoor
open Go.Sx Go.Our
def ZlM{K:Type}(f:K->List SV)(es k:Nat)(z:K)(n:Nat)(l:List K):SV->w9->Nat->Prop:=fun r O nx=> ∃j,j+l.length<=n/\r= .sl (.loc k) 0 es l.length (some l.length)/\O=[(k, .rows es ((l++List.replicate j z).map f))]/\nx=k+1
end Go.Proofs.YtlcbipfmodcedaaGreatDoor
namespace Go.Proofs.YtlcbipfmodcedaaGreatDoor
open Go.Sx Go.Our Go.Sort Go.Shelf
open _root_.Go.Proofs.Tryz
def Tc:wP:=(Zr [(0,1),(1,1),(2,1),(4,1),(5,1),(6,1),(7,1),(3,2),(8,2),(9,1)])
theorem Zdv(l:List (List UInt8))(n:Nat)(hn:n<=l.length)(hl:l.length*16<=140741783322624):uX prog wD 90 1 [.sl (.loc 0) 0 1 n none] [(0, .rows 1 (l.map Zh))] []
 (fun r O nx=>r= .sl (.loc 0) 0 1 n (some n)/\O=[(0, .rows 1 (l.map Zh))]/\nx=1):=by
 refine uX.enter Z0 call90 func90 rfl 9 rfl rfl [.tmp 2] rfl ?_;intro w0 F η0 h0;conv=>whnf
 repeat'(first|refine wm.mk ⟨by omega,by omega,by omega⟩ ?_)<;>conv=>whnf
 refine wh.here h0 (rc:= .sl (.loc 0) 0 1 n (some n)) (Oc:=[(0, .rows 1 (l.map Zh))]) (by simp) rfl (by first|rfl|(simp only[Zj,Zi,Z2 _ (Zt _),zD,zG]<;>rfl)) ⟨rfl,trivial⟩ ⟨rfl,rfl,rfl⟩
theorem Z7q(l:List (List UInt8))(hl:l.length*16<=140741783322624):uX prog wD 91 1 [.sl (.loc 0) 0 1 l.length none] [(0, .rows 1 (l.map Zh))] []
 (fun r O nx=>r= .sl (.loc 0) 0 1 (Z6 l).length none/\O=[(0, .rows 1 ((Z6 l++List.replicate (l.length-(Z6 l).length) ([]:List UInt8)).map Zh))]/\nx=1):=by
 have fin:∀{m:Nat},m=(Z6 l).length->Z6 l=l->(SV.sl (.loc 0) 0 1 l.length none=SV.sl (.loc 0) 0 1 (Z6 l).length none)/\l.map Zh=(Z6 l++List.replicate (l.length-(Z6 l).length) ([]:List UInt8)).map Zh:=fun hm he=>by
  rw[he];simp
 refine uX.enter Z0 call91 func91 rfl 61 rfl rfl [.tmp 2] rfl ?_;intro w0 F η0 h0;conv=>whnf
 refine IF.mk (fun h=>?_) (fun h=>?_)
 .have h:l.length<2:=by simp at h;omega
  obtain⟨f1,f2⟩:=fin rfl (BJ h);conv=>whnf
  rw[f1,f2];refine wh.here h0 (rc:= .sl (.loc 0) 0 1 (Z6 l).length none) (Oc:=[(0, .rows 1 ((Z6 l++List.replicate (l.length-(Z6 l).length) ([]:List UInt8)).map Zh))]) rfl rfl (by first|rfl|(simp only[Zj,Zi,Z2 _ (Zt _),zD,zG]<;>rfl)) ⟨rfl,trivial⟩ ⟨rfl,rfl,rfl⟩
 have h2:2<=l.length:=by simp at h;omega
 clear h;conv=>whnf
 refine wj.go Z0 [0] (X:=Nat) (fun k=>1<=k/\k<=l.length/\Z6 (l.take k)=l.take k) (fun k=>[(3, .int .i64 (k:Int))]) (fun k=>[(0, .rows 1 (l.map Zh))]) 1 (fun k=>l.length-k) 1 ⟨by omega,by omega,Ry⟩ ?_;conv=>whnf
 refine⟨by exact w5.cA h0,?_⟩;rintro k ⟨l6,pz,hk⟩;conv=>whnf
 rcases y9 k l.length with hlt|hge
 .have hs:=JG l6 hlt;have hk':(IntKind.i64.wrap ((k:Int)-1)).toNat=k-1:=by rw[Z5 (by omega) (by omega)];omega
  repeat'(first|refine Z3 6 Tc ?_|refine GET.at (row:=Zh (l[k]'(by omega))) (Vb (by omega) (by omega)) ?_|refine GET.at (row:=Zh (l[k-1]'(by omega))) (Vb (by omega) (by omega)) ?_|refine AU ?_|refine IW ?_ ?_<;>intro h<;>try omega)<;>conv=>whnf
  .have heq:l[k]=l[k-1]:=id (h);rw[zh heq,hk]at hs;have hs0:(Z6 (l.take (k+1))).length=k:=by rw[hs];simp;omega
   clear h heq;refine wj.go Z0 [0,4] (X:=Nat) (fun i=>k+1<=i/\i<=l.length/\(Z6 (l.take i)).length+1<=i/\k<=(Z6 (l.take i)).length) (fun i=>[(3, .int .i64 ((Z6 (l.take i)).length:Int)),(5, .int .i64 ((i-k:Nat):Int))]) (fun i=>[(0, .rows 1 ((Z6 (l.take i)++l.drop (Z6 (l.take i)).length).map Zh))]) 1 (fun i=>l.length-i) (k+1) ⟨by omega,by omega,by omega,by omega⟩ ?_;conv=>whnf
   refine⟨by(refine w5.qn h0 rfl rfl rfl (by first|rfl|(simp only[Zj,Zi,Z2 _ (Zt _),zD,zG]<;>rfl)) ?_ ?_<;>(repeat'(first|(with_reducible rfl)|(exact Ya rfl (by first|(simp;done)|omega|(simp;omega)))|(exact ze (SV.int _) (by first|omega|(simp(disch:=omega) only[qL,Z5,Zn]<;>omega)|(simp;done)|(simp<;>omega)))|(exact ze (Hp.rows _) (by(rw[hs,zu,yQ pz,yM])))|((conv=>whnf);refine⟨?_,?_⟩)|exact trivial|rfl))),?_⟩;rintro i ⟨hi1,hi2,AF,hi4⟩;obtain⟨C,hC⟩:∃C,C=Z6 (l.take i):=⟨_,rfl⟩;have hsi:=fun h=>JG (l:=l) (i:=i) (by omega) h;rw[<-hC]at AF hi4 hsi;dsimp only;rw[<-hC];conv=>whnf
   rcases y9 i l.length with hil|hil
   .have hsi:=hsi hil;have hwr:IntKind.i64.wrap (((i-k:Nat):Int)-1)=((i-1-k:Nat):Int):=by rw[Z5 (by omega) (by omega)];omega
    have hg1:((C++l.drop C.length).map Zh)[i]?=some (Zh l[i]):=Kt Zh (by omega) hil;have hg2:((C++l.drop C.length).map Zh)[i-1]?=some (Zh (l[i-1]'(by omega))):=Kt Zh (by omega) (by omega);have hg3:((C++l.drop C.length).map Zh)[C.length]?=some (Zh (l[C.length]'(by omega))):=Kt Zh (zo _) (by omega);repeat'(first|refine Z3 11 Tc ?_|refine GET.at (row:=Zh (l[i]'(by omega))) (Ku hg1 (by omega)) ?_|refine GET.at (row:=Zh (l[i-1]'(by omega))) (Ku hg2 (by rw[hwr];omega)) ?_|refine GET.at (row:=Zh (l[C.length]'(by omega))) (Ku hg3 (by omega)) ?_|refine AU ?_|refine IW ?_ ?_<;>intro h<;>try omega)<;>conv=>whnf
    .have hne:¬l[i]=l[i-1]'(by omega):=fun he=>by rw[he]at h;simp at h
     rw[z7 hne]at hsi;refine⟨i+1,⟨by omega,by omega,by rw[hsi,zg];simp;omega,by rw[hsi,zg];simp;omega⟩,by omega,?_⟩;rw[hsi];conv=>whnf
     (refine w5.qn h0 rfl rfl rfl (by first|rfl|(simp only[Zj,Zi,Z2 _ (Zt _),zD,zG]<;>rfl)) ?_ ?_<;>(repeat'(first|(with_reducible rfl)|(exact Ya rfl (by first|(simp;done)|omega|(simp;omega)))|(exact ze (SV.int _) (by first|omega|(simp(disch:=omega) only[qL,Z5,Zn]<;>omega)|(simp;done)|(simp<;>omega)))|(exact ze (Hp.rows _) (by(first|(simp only[zy,Int.toNat_natCast];exact T8 Zh _ (by omega))|rfl)))|((conv=>whnf);refine⟨?_,?_⟩)|exact trivial|rfl)))
    .have heq:l[i]=l[i-1]'(by omega):=id (h);rw[zh heq]at hsi;refine⟨i+1,⟨by omega,by omega,by rw[hsi];omega,by rw[hsi];omega⟩,by omega,?_⟩;rw[hsi];conv=>whnf
     exact w5.cA h0
   .have tR:C=Z6 l:=by rw[hC,zi hil]
    have jm:C.length<=l.length:=by omega
    repeat'(first|refine wm.mk (by simp only[zA,zg,zF];omega) ?_|refine wm.mk ⟨by omega,GI (by omega)⟩ ?_|refine AU ?_|refine IW ?_ ?_<;>intro h<;>try omega)<;>conv=>whnf
    rw[<-tR];refine wh.here h0 (rc:= .sl (.loc 0) 0 1 C.length none) (Oc:=[(0, .rows 1 ((C++List.replicate (l.length-C.length) ([]:List UInt8)).map Zh))]) (by simp) rfl (by first|rfl|(simp only[Zj,Zi,Z2 _ (Zt _),zD,zG]<;>rfl)) ⟨?_,trivial⟩ ⟨rfl,rfl,rfl⟩;refine ze (Hp.rows 1) ?_;simp only[zy,Int.toNat_natCast];exact T9 Zh ([]:List UInt8) jm
  .have hne:¬l[k]=l[k-1]:=fun he=>by rw[he]at h;simp at h
   rw[z7 hne,hk]at hs;refine⟨k+1,⟨by omega,by omega,by rw[hs,zH hlt]⟩,by omega,?_⟩;conv=>whnf
   exact w5.cA h0
 .have hkn:k=l.length:=by omega
  rw[hkn,zi (zo _)]at hk;obtain⟨f1,f2⟩:=fin rfl hk;repeat'(first|refine IW ?_ ?_<;>intro h<;>try omega)<;>conv=>whnf
  rw[f1,f2];refine wh.here h0 (rc:= .sl (.loc 0) 0 1 (Z6 l).length none) (Oc:=[(0, .rows 1 ((Z6 l++List.replicate (l.length-(Z6 l).length) ([]:List UInt8)).map Zh))]) rfl rfl (by first|rfl|(simp only[Zj,Zi,Z2 _ (Zt _),zD,zG]<;>rfl)) ⟨rfl,trivial⟩ ⟨rfl,rfl,rfl⟩
def Zdw:Go.Shelf.Ren:=⟨fun|190=>89|125=>114|258=>125|128=>150|129=>151|302=>165|303=>166|304=>167|305=>168|306=>169|307=>170|308=>171|309=>172|310=>173|333=>217|329=>196|330=>197|334=>218|335=>219|336=>220|344=>268|n=>n,fun|31=>31|9=>9|3=>3|46=>177|0=>0|51=>157|53=>162|4=>4|183=>208|182=>207|131=>103|5=>5|218=>250|222=>87|228=>292|229=>130|n=>n,fun|n=>n⟩
theorem ZlN:Go.Proofs.Lays.n190 prog Zdw where
 mixed:=by kernel_rfl
 f125:=func114.trans (ze some (by kernel_rfl))
 f128:=func150.trans (ze some (by kernel_rfl))
 f129:=func151.trans (ze some (by kernel_rfl))
 f190:=func89.trans (ze some (by kernel_rfl))
 f258:=func125.trans (ze some (by kernel_rfl))
 f302:=func165.trans (ze some (by kernel_rfl))
 f303:=func166.trans (ze some (by kernel_rfl))
 f304:=func167.trans (ze some (by kernel_rfl))
 f305:=func168.trans (ze some (by kernel_rfl))
 f306:=func169.trans (ze some (by kernel_rfl))
 f307:=func170.trans (ze some (by kernel_rfl))
 f308:=func171.trans (ze some (by kernel_rfl))
 f309:=func172.trans (ze some (by kernel_rfl))
 f310:=func173.trans (ze some (by kernel_rfl))
 f329:=func196.trans (ze some (by kernel_rfl))
 f330:=func197.trans (ze some (by kernel_rfl))
 f333:=func217.trans (ze some (by kernel_rfl))
 f334:=func218.trans (ze some (by kernel_rfl))
 f335:=func219.trans (ze some (by kernel_rfl))
 f336:=func220.trans (ze some (by kernel_rfl))
 f344:=func268.trans (ze some (by kernel_rfl))
 t0:=underlying0
 a0:=isAgg0
 z0:=sizeOf0
 v0:=zeroValue0
 t3:=underlying3
 a3:=isAgg3
 z3:=sizeOf3
 v3:=zeroValue3
 t4:=underlying4
 a4:=isAgg4
 z4:=sizeOf4
 v4:=zeroValue4
 t5:=underlying5
 a5:=isAgg5
 z5:=sizeOf5
 v5:=zeroValue5
 t9:=underlying9
 a9:=isAgg9
 z9:=sizeOf9
 v9:=zeroValue9
 t31:=underlying31
 a31:=isAgg31
 z31:=sizeOf31
 v31:=zeroValue31
 t46:=underlying177
 a46:=isAgg177
 z46:=sizeOf177
 v46:=zeroValue177
 t51:=underlying157
 a51:=isAgg157
 z51:=sizeOf157
 v51:=zeroValue157
 t53:=underlying162
 a53:=isAgg162
 z53:=sizeOf162
 v53:=zeroValue162
 t131:=underlying103
 a131:=isAgg103
 z131:=sizeOf103
 v131:=zeroValue103
 t182:=underlying207
 a182:=isAgg207
 z182:=sizeOf207
 v182:=zeroValue207
 t183:=underlying208
 a183:=isAgg208
 z183:=sizeOf208
 v183:=zeroValue208
 t218:=underlying250
 a218:=isAgg250
 z218:=sizeOf250
 v218:=zeroValue250
 t222:=underlying87
 a222:=isAgg87
 z222:=sizeOf87
 v222:=zeroValue87
 t228:=underlying292
 a228:=isAgg292
 z228:=sizeOf292
 v228:=zeroValue292
 t229:=underlying130
 a229:=isAgg130
 z229:=sizeOf130
 v229:=zeroValue130
theorem Zdx(l:List (List UInt8))(hl:l.length*16<=140737488351232):uX prog wD 89 1 [.sl (.loc 0) 0 1 l.length none] [(0, .rows 1 (l.map Zh))] []
 (fun r O nx=>r= .wM []/\O=[(0, .rows 1 ((l.mergeSort (kK cmpL)).map Zh))]/\nx=1):=
 Z9m ZlN call89 l (by omega)
end Go.Proofs.YtlcbipfmodcedaaGreatDoor
namespace Go.Proofs.YtlcbipfmodcedaaGreatDoor
open Go.Sx Go.Our
open _root_.Go.Proofs.Tryz
def AG:wP:=(Zr [(0,1),(1,1),(2,1),(3,1),(4,1),(5,1),(6,1),(7,1),(8,1),(9,1),(11,1),(12,1),(10,2),(13,2),(14,3),(15,1),(16,1),(17,1)])
def AH:wP:=(Zr [(0,1),(1,1),(2,1),(3,1),(4,1),(5,1),(6,1),(7,1),(8,1),(9,2),(10,2),(11,3),(12,1),(13,1)])
def ZhH:wP:=(Zr [(0,1),(1,1),(2,1),(3,1),(4,1),(6,1),(7,1),(8,1),(9,1),(10,1),(5,3),(11,3),(12,3),(13,1)])
def Qz{K:Type}(f:K->List SV)(es k:Nat)(l:List K):SV->w9->Nat->Prop:=fun r O nx=>r= .sl (.loc k) 0 es l.length none/\O=[(k, .rows es (l.map f))]/\nx=k+1
theorem Td{K:Type}{c:K->K->Int}{out:List K}(h:out≠ [])(q:K):Vk c out q=if c (out.getLast h) q<0 then out++ [q]else out:=by
 unfold Vk;rw[vw h]
theorem EM{K:Type}{c:K->K->Int}{out:List K}{q:K}(h:out.length=0\/∃h0:0<out.length,c (out[out.length-1]'(by omega)) q<0):Vk c out q=out++ [q]:=by
 rcases h with h|⟨h0,h⟩
 .have:=zJ.1 h;subst this;rfl
 .have hne:out≠ []:=fun e=>by subst e;simp at h0
  rw[Td hne,vn,zh h]
theorem EN{K:Type}{c:K->K->Int}{out:List K}{q:K}(h:∃h0:0<out.length,0<=c (out[out.length-1]'(by omega)) q):Vk c out q=out:=by
 obtain⟨h0,h⟩:=h;have hne:out≠ []:=fun e=>by subst e;simp at h0
 rw[Td hne,vn,z7 (by omega)]
theorem Zdy{K:Type}{c:K->K->Int}(out:List K):Yp c out [] []=out:=by unfold Yp;rfl
theorem UL{K:Type}{c:K->K->Int}{out a b:List K}(x:K)(h:b=[]\/∃y t,b=y::t/\c x y<=0):Yp c out (x::a) b=Yp c (Vk c out x) a b:=by
 rcases h with rfl|⟨y,t,rfl,h⟩
 conv=>lhs;unfold Yp
 .conv=>lhs;unfold Yp
  rw[zh h]
theorem VP{K:Type}{c:K->K->Int}{out a b:List K}(y:K)(h:a=[]\/∃x t,a=x::t/\¬c x y<=0):Yp c out a (y::b)=Yp c (Vk c out y) a b:=by
 rcases h with rfl|⟨x,t,rfl,h⟩
 conv=>lhs;unfold Yp
 .conv=>lhs;unfold Yp
  rw[z7 h]
theorem EO{K:Type}{A:List K}{i k n:Nat}(h:k<n)(hA:i+n<=A.length):(A.drop (i+k)).take (n-k)=A[i+k]::(A.drop (i+(k+1))).take (n-(k+1)):=by
 rw[zq (by omega),show n-k=(n-(k+1))+1 by omega,List.take_succ_cons];rfl
theorem Z7u(A B:List Qd)(i n j m:Nat)(lA lB:Option Nat)(hA:i+n<=A.length)(hB:j+m<=B.length)(hl:(A.length+B.length)*224<=140737488351232):uX prog wD 118 2 [.sl (.loc 0) i 16 n lA, .sl (.loc 1) j 16 m lB] [] [(0, .rows 16 (A.map Z4)),(1, .rows 16 (B.map Z4))]
 (Qz Z4 16 2 (Yp ZM [] ((A.drop i).take n) ((B.drop j).take m))):=by
 refine uX.enter Z0 call118 func118 rfl 62 rfl rfl [.tmp 4] rfl ?_;intro w0 F η0 h0;conv=>whnf
 refine wj.nil 5 16 rfl ?_
 refine wj.go Z0 [] (X:=List Qd×Nat×Nat) (fun x=>x.2.1<=n/\x.2.2<=m/\x.1.length<=x.2.1+x.2.2/\Yp ZM [] ((A.drop i).take n) ((B.drop j).take m)=Yp ZM x.1 ((A.drop (i+x.2.1)).take (n-x.2.1)) ((B.drop (j+x.2.2)).take (m-x.2.2)))
  (fun x=>[(0, .sl (.loc 0) (i+x.2.1) 16 (n-x.2.1) lA),(1, .sl (.loc 1) (j+x.2.2) 16 (m-x.2.2) lB),(5, .sl (.loc 2) 0 16 x.1.length none)]) (fun x=>[(2, .rows 16 (x.1.map Z4))]) 3 (fun x=>(n-x.2.1)+(m-x.2.2)) ([],0,0) ⟨by simp,by simp,by simp,rfl⟩ ?_
 conv=>whnf
 refine⟨by exact w5.cA h0,?_⟩;rintro⟨out,p,q⟩ ⟨hp,hq,ho,hr⟩;dsimp only at hp hq ho hr⊢;have qb:∀(h:0<out.length),IntKind.i64.wrap ((out.length:Int)-1)=((out.length-1:Nat):Int):=fun h=>by rw[Z5 (by omega) (by omega)];omega
 rcases y9 p n with oP|oP<;>rcases y9 q m with fL|fL
 .have ha:=EO (A:=A) (i:=i) oP hA;have hb:=EO (A:=B) (i:=j) fL hB;rw[ha,hb]at hr;conv=>whnf
  repeat'(first|refine Z3 4 AG ?_|refine Z3 9 AH ?_|refine qJ.mk (fun _ _=>?_)|refine CALL.value (Xf _ _) rfl rfl ?_|refine wm.mk (Zm 224 rfl rfl rfl (by simp) (by omega)) ?_|refine GET.at (row:=Z4 (A[i+p]'(by omega))) (Vb (by omega) (by omega)) ?_|refine GET.at (row:=Z4 (B[j+q]'(by omega))) (Vb (by omega) (by omega)) ?_|refine GET.at (row:=Z4 (out[out.length-1]'(by omega))) (Vb (by omega) (by rw[qb (by omega)];omega)) ?_|refine AU ?_|refine IW ?_ ?_<;>intro h<;>try omega)<;>conv=>whnf
  all_goals first
   |(refine⟨(out++ [A[i+p]'(by omega)],p+1,q),⟨by dsimp only;omega,by dsimp only;omega,by simp only[zg,List.length_cons,List.length_nil];omega,by dsimp only;rw[hr,UL _ (.inr ⟨_,_,rfl,by omega⟩),EM (by first|(left;omega)|(right;exact⟨by omega,by assumption⟩))];(first|done|rw[hb]|rw[ha])⟩,by dsimp only;omega,?_⟩;dsimp only;(conv=>whnf);(refine w5.wV h0 [5] rfl rfl rfl (by first|rfl|(simp only[Zj,Zi,Z2 _ (Zy _),zD,zG]<;>rfl)) ?_ ?_<;>(repeat'(first|(with_reducible rfl)|(exact Zl (Zy _) (Zb _ (Zy _)))|(exact Zl (Zy _) (by(simp[zi,Yy,Z4])))|(exact Ya rfl (by first|(simp;done)|omega|(simp;omega)))|(exact ze (SV.int _) (by first|omega|(simp(disch:=omega) only[qL,Z5,Zn]<;>omega)|(simp;done)|(simp<;>omega)))|((conv=>whnf);refine⟨?_,?_⟩)|exact trivial|(simp only[wR,qo];done)|rfl)));done)
   |(refine⟨(out,p+1,q),⟨by dsimp only;omega,by dsimp only;omega,by dsimp only;omega,by dsimp only;rw[hr,UL _ (.inr ⟨_,_,rfl,by omega⟩),EN ⟨by omega,by assumption⟩];(first|done|rw[hb]|rw[ha])⟩,by dsimp only;omega,?_⟩;dsimp only;(conv=>whnf);exact w5.cA h0;done)
   |(refine⟨(out++ [B[j+q]'(by omega)],p,q+1),⟨by dsimp only;omega,by dsimp only;omega,by simp only[zg,List.length_cons,List.length_nil];omega,by dsimp only;rw[hr,VP _ (.inr ⟨_,_,rfl,by omega⟩),EM (by first|(left;omega)|(right;exact⟨by omega,by assumption⟩))];(first|done|rw[hb]|rw[ha])⟩,by dsimp only;omega,?_⟩;dsimp only;(conv=>whnf);(refine w5.wV h0 [5] rfl rfl rfl (by first|rfl|(simp only[Zj,Zi,Z2 _ (Zy _),zD,zG]<;>rfl)) ?_ ?_<;>(repeat'(first|(with_reducible rfl)|(exact Zl (Zy _) (Zb _ (Zy _)))|(exact Zl (Zy _) (by(simp[zi,Yy,Z4])))|(exact Ya rfl (by first|(simp;done)|omega|(simp;omega)))|(exact ze (SV.int _) (by first|omega|(simp(disch:=omega) only[qL,Z5,Zn]<;>omega)|(simp;done)|(simp<;>omega)))|((conv=>whnf);refine⟨?_,?_⟩)|exact trivial|(simp only[wR,qo];done)|rfl)));done)
   |(refine⟨(out,p,q+1),⟨by dsimp only;omega,by dsimp only;omega,by dsimp only;omega,by dsimp only;rw[hr,VP _ (.inr ⟨_,_,rfl,by omega⟩),EN ⟨by omega,by assumption⟩];(first|done|rw[hb]|rw[ha])⟩,by dsimp only;omega,?_⟩;dsimp only;(conv=>whnf);exact w5.cA h0;done)
 .have ha:=EO (A:=A) (i:=i) oP hA;have hb:(B.drop (j+q)).take (m-q)=[]:=by rw[show m-q=0 by omega];rfl
  rw[ha,hb]at hr;conv=>whnf
  repeat'(first|refine Z3 4 AG ?_|refine Z3 9 AH ?_|refine qJ.mk (fun _ _=>?_)|refine CALL.value (Xf _ _) rfl rfl ?_|refine wm.mk (Zm 224 rfl rfl rfl (by simp) (by omega)) ?_|refine GET.at (row:=Z4 (A[i+p]'(by omega))) (Vb (by omega) (by omega)) ?_|refine GET.at (row:=Z4 (out[out.length-1]'(by omega))) (Vb (by omega) (by rw[qb (by omega)];omega)) ?_|refine AU ?_|refine IW ?_ ?_<;>intro h<;>try omega)<;>conv=>whnf
  all_goals first
   |(refine⟨(out++ [A[i+p]'(by omega)],p+1,q),⟨by dsimp only;omega,by dsimp only;omega,by simp only[zg,List.length_cons,List.length_nil];omega,by dsimp only;rw[hb,hr,UL _ (.inl rfl),EM (by first|(left;omega)|(right;exact⟨by omega,by assumption⟩))];(first|done|rw[hb]|rw[ha])⟩,by dsimp only;omega,?_⟩;dsimp only;(conv=>whnf);(refine w5.wV h0 [5] rfl rfl rfl (by first|rfl|(simp only[Zj,Zi,Z2 _ (Zy _),zD,zG]<;>rfl)) ?_ ?_<;>(repeat'(first|(with_reducible rfl)|(exact Zl (Zy _) (Zb _ (Zy _)))|(exact Zl (Zy _) (by(simp[zi,Yy,Z4])))|(exact Ya rfl (by first|(simp;done)|omega|(simp;omega)))|(exact ze (SV.int _) (by first|omega|(simp(disch:=omega) only[qL,Z5,Zn]<;>omega)|(simp;done)|(simp<;>omega)))|((conv=>whnf);refine⟨?_,?_⟩)|exact trivial|(simp only[wR,qo];done)|rfl)));done)
   |(refine⟨(out,p+1,q),⟨by dsimp only;omega,by dsimp only;omega,by dsimp only;omega,by dsimp only;rw[hb,hr,UL _ (.inl rfl),EN ⟨by omega,by assumption⟩];(first|done|rw[hb]|rw[ha])⟩,by dsimp only;omega,?_⟩;dsimp only;(conv=>whnf);exact w5.cA h0;done)
 .have hb:=EO (A:=B) (i:=j) fL hB;have ha:(A.drop (i+p)).take (n-p)=[]:=by rw[show n-p=0 by omega];rfl
  rw[ha,hb]at hr;conv=>whnf
  repeat'(first|refine Z3 4 AG ?_|refine Z3 9 AH ?_|refine qJ.mk (fun _ _=>?_)|refine CALL.value (Xf _ _) rfl rfl ?_|refine wm.mk (Zm 224 rfl rfl rfl (by simp) (by omega)) ?_|refine GET.at (row:=Z4 (B[j+q]'(by omega))) (Vb (by omega) (by omega)) ?_|refine GET.at (row:=Z4 (out[out.length-1]'(by omega))) (Vb (by omega) (by rw[qb (by omega)];omega)) ?_|refine AU ?_|refine IW ?_ ?_<;>intro h<;>try omega)<;>conv=>whnf
  all_goals first
   |(refine⟨(out++ [B[j+q]'(by omega)],p,q+1),⟨by dsimp only;omega,by dsimp only;omega,by simp only[zg,List.length_cons,List.length_nil];omega,by dsimp only;rw[ha,hr,VP _ (.inl rfl),EM (by first|(left;omega)|(right;exact⟨by omega,by assumption⟩))];(first|done|rw[hb]|rw[ha])⟩,by dsimp only;omega,?_⟩;dsimp only;(conv=>whnf);(refine w5.wV h0 [5] rfl rfl rfl (by first|rfl|(simp only[Zj,Zi,Z2 _ (Zy _),zD,zG]<;>rfl)) ?_ ?_<;>(repeat'(first|(with_reducible rfl)|(exact Zl (Zy _) (Zb _ (Zy _)))|(exact Zl (Zy _) (by(simp[zi,Yy,Z4])))|(exact Ya rfl (by first|(simp;done)|omega|(simp;omega)))|(exact ze (SV.int _) (by first|omega|(simp(disch:=omega) only[qL,Z5,Zn]<;>omega)|(simp;done)|(simp<;>omega)))|((conv=>whnf);refine⟨?_,?_⟩)|exact trivial|(simp only[wR,qo];done)|rfl)));done)
   |(refine⟨(out,p,q+1),⟨by dsimp only;omega,by dsimp only;omega,by dsimp only;omega,by dsimp only;rw[ha,hr,VP _ (.inl rfl),EN ⟨by omega,by assumption⟩];(first|done|rw[hb]|rw[ha])⟩,by dsimp only;omega,?_⟩;dsimp only;(conv=>whnf);exact w5.cA h0;done)
 .have ha:(A.drop (i+p)).take (n-p)=[]:=by rw[show n-p=0 by omega];rfl
  have hb:(B.drop (j+q)).take (m-q)=[]:=by rw[show m-q=0 by omega];rfl
  rw[ha,hb,Zdy]at hr;conv=>whnf
  repeat'(first|refine IW ?_ ?_<;>intro h<;>try omega)<;>conv=>whnf
  rw[hr];exact wh.rows h0 2 16 out.length rfl rfl rfl (Zy _) ⟨rfl,rfl,rfl⟩
theorem Te{K:Type}[DecidableEq K]{c:K->K->Int}(h:jH c)(l:List K):(Wl c l).length<=l.length:=by
 rw[Ee h _ l (zo _)];exact Kk l
theorem AJ(A:List Qd)(hA:A.length*224<=140737488351232):∀(k n i:Nat) (hk:n<=k) (hi:i+n<=A.length),uX prog wD 82 1 [.sl (.loc 0) i 16 n none] [] [(0, .rows 16 (A.map Z4))] (Qz Z4 16 1 (Wl ZM ((A.drop i).take n)))
 |k,n,i,hk,hi=>by
  obtain⟨l,hl⟩:∃l,l=(A.drop i).take n:=⟨_,rfl⟩;have bh:l.length=n:=by rw[hl];simp;omega
  have hrows:((A.map Z4).drop i).take n=l.map Z4:=by rw[hl,xx,vL]
  rw[<-hl];refine uX.enter Z0 call82 func82 rfl 22 rfl rfl [.tmp 2] rfl ?_;intro w0 F η0 h0;conv=>whnf
  repeat'(first|rw[hrows]|refine wm.mk (Zm 224 rfl rfl (by rw[zA];exact bh) (by simp) (by omega)) ?_|refine IW ?_ ?_<;>intro h<;>try omega)<;>conv=>whnf
  .have hs:Wl ZM l=l:=by unfold Wl;rw[zh (by omega)]
   rw[hs];rw[zy];exact wh.rows h0 2 16 n rfl rfl rfl (Zy _) ⟨by rw[bh],rfl,rfl⟩
  .have hs:Wl ZM l=Yp ZM [] (Wl ZM (l.take (n/2))) (Wl ZM (l.drop (n/2))):=by
    conv=>lhs;unfold Wl
    rw[z7 (by omega),bh]
   have e1:l.take (n/2)=(A.drop i).take (n/2):=by rw[hl,v7,yQ (by omega)]
   have e2:l.drop (n/2)=(A.drop (i+n/2)).take (n-n/2):=by rw[hl,uy,yt]
   have hn2:2<=n:=by omega
   obtain⟨k',rfl⟩:∃k',k=k'+1:=⟨k-1,by omega⟩;have r1:=AJ A hA k' (n/2) i (by omega) (by omega);have r2:=AJ A hA k' (n-n/2) (i+n/2) (by omega) (by omega);rw[<-e1]at r1;rw[<-e2]at r2;have l1:=Te jP (l.take (n/2));have l2:=Te jP (l.drop (n/2));generalize Wl ZM (l.take (n/2))=X at r1 hs l1;generalize Wl ZM (l.drop (n/2))=Y at r2 hs l2;have r3:=Z7u X Y 0 X.length 0 Y.length none none (by omega) (by omega) (by simp at l1 l2;omega);rw[yD,zX,yD,zX,<-hs]at r3;have hw:IntKind.i64.wrap (Int.tdiv (n:Int) 2)=((n/2:Nat):Int):=by rw[yZ (by omega),Z5 (by omega) (by omega)];omega
   repeat'(first|refine Z3 3 ZhH ?_|refine qJ.mk (fun _ _=>?_)|refine AD ?_|rw[hw]|rw[Int.toNat_natCast]|refine AU ?_)<;>conv=>whnf
   refine CALL.aA [0] (r1) ?_;rintro r O nx ⟨rfl,rfl,rfl⟩;conv=>whnf
   repeat'(first|refine qJ.mk (fun _ _=>?_))<;>conv=>whnf
   refine CALL.aA [0] (r2) ?_;rintro r O nx ⟨rfl,rfl,rfl⟩;conv=>whnf
   repeat'(first|refine qJ.mk (fun _ _=>?_))<;>conv=>whnf
   refine CALL.aA [1,2] (r3) ?_;rintro r O nx ⟨rfl,rfl,rfl⟩;conv=>whnf
   skip
   refine wh.aA h0 [3] (.sl (.loc 1) 0 16 (Wl ZM l).length none) [(1, .rows 16 ((Wl ZM l).map Z4))] ?_;exact⟨rfl,rfl,rfl⟩
end Go.Proofs.YtlcbipfmodcedaaGreatDoor

namespace Go.Proofs.YtlcbipfmodcedaaGreatDoor
open Go.Sx Go.Our
theorem AK{l z:List Qd}{i:Nat}{k:Nat}(h:i<l.length)(e:k=i):((l++z).map Z4)[k]?=some (Z4 l[i]):=by subst e;exact Jn h
end Go.Proofs.YtlcbipfmodcedaaGreatDoor

namespace Go.Proofs.YtlcbipfmodcedaaGreatDoor
open Go.Sx Go.Our
open _root_.Go.Proofs.Tryz
def ZhI:wP:=(Zr [(0,1),(1,1),(2,1),(3,1),(4,1),(5,1),(6,1),(7,1),(8,1),(9,1),(10,1),(11,1),(12,1),(13,0)])
theorem ZfZ(q:Qd):uX prog wD 44 1 [.ptr (.loc 0) 0 0 0] [] [(0, .box (Z4 q))] (qE 1 (.arr 1 [[.ptr (.loc 0) 0 0 0],[.ptr (.loc 0) 0 0 4],[.ptr (.loc 0) 0 0 8],[.ptr (.loc 0) 0 0 12]])):=by
 refine uX.enter Z0 call44 func44 rfl 16 rfl rfl [.cell 2 100] rfl ?_;intro w0 F η0 h0;conv=>whnf
 repeat'(first|refine Z3 1 ZhI ?_|refine AU ?_)<;>conv=>whnf
 exact wh.here h0 (rc:= .arr 1 [[.ptr (.loc 0) 0 0 0],[.ptr (.loc 0) 0 0 4],[.ptr (.loc 0) 0 0 8],[.ptr (.loc 0) 0 0 12]]) (Oc:=[]) rfl rfl rfl trivial ⟨rfl,rfl,rfl⟩
theorem Tf{K:Type}(f:Qd->List K){l:List Qd}{i:Nat}(h:i<l.length):(l.take (i+1)).flatMap f=(l.take i).flatMap f++f l[i]:=by
 rw[zH h,uv];simp
theorem EP{K:Type}(f:Qd->List K){k:Nat}(hk:∀q,(f q).length<=k):∀(l:List Qd),(l.flatMap f).length<=l.length*k
 | []=>by simp
 |q::l=>by
  have:=EP f hk l;have:=hk q;simp only[xg,zg,List.length_cons,yB];omega
