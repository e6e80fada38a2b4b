/- Part 0: ReadG, SetN, Sets1, Sets2, TermM, Valid7, ValidN, SxKids, Apart1, MapM, BijM, IsoFindM, IsoFits, SxPan, IsoFindL, IsoVal, IsoLeastM, Ren8, Bij1, FindT, FindU, FindV, CanS, TwinM, UnmetM, LabD, TwinB, FindW, AwakeC, BijC, LawCS, ReadP, ReadPS. Conditions: as each part says. -/
import Derived.Test.YtlcbipfmodcedaaGreatDoorRows
import Derived.Lib.LaidTab
import Derived.LaidSub
import Derived.RecoverIn
import Derived.Test.YtlcbipfmodcedaaGreatDoorFrm49
import Derived.Test.YtlcbipfmodcedaaGreatDoorFrm48
set_option linter.unusedVariables false
set_option linter.unusedSimpArgs false
namespace Go.Sx
open Go
end Go.Sx
namespace Go.Our
open Go.RowKit Go.ChangeShapes Go.WideShapes Go.ChangeAt Go.Sx
section
variable {H:Type}{enc:TypeId×Value->H}{P:Program}{w:World}
end
end Go.Our
namespace Go.Proofs.YtlcbipfmodcedaaGreatDoor
open Go.RowKit Go.Our Go.ChangeShapes Go.WideShapes Go.ChangeAt Go.Sx
open _root_.Go.Proofs.Tryz
theorem ZlM{g:FuncId}{args:List SV}{vs:List Value}{W:World}{v v':Value}{es es':Nat}{rs rs':List (List SV)}{en cu:Option wZ}(h:qN W v es rs en)(h':qN W v' es' rs' cu)(sp:vS prog uf g 2 args [] [(0, .rows es rs),(1, .rows es' rs')] (w6 2 (.bool true)))(eg:∀args w,(callFunc g args).run prog w= .ok (.enter g args) w)(hd:vV [en,cu] args vs)(hg:Dy W):
 Calls prog g ⟨vs⟩ W fun e W'=>e= .returned (.bool true)/\Below W.heap.size W W':=by
 refine ZbK (η0:=[en,cu]) rfl sp eg hd (fun p hp=>?_) (fun i e hi=>?_) hg
 .rcases zL.1 hp with rfl|hp
  exact h.sat rfl
  .have hp:=zI.1 hp;subst hp;exact h'.sat rfl
 .match i,hi with
  |0,hi=>injection hi with hi;exact h.1 e hi
  |1,hi=>injection hi with hi;exact h'.1 e hi
end Go.Proofs.YtlcbipfmodcedaaGreatDoor
set_option linter.unusedSectionVars false
namespace Go.Our
section
variable {K:Type}{c:K->K->Int}
end
section
variable {K:Type}[DecidableEq K]{c:K->K->Int}
theorem ZlE{l:List K}(hl:wQ c l){i j:Nat}(hij:i<j)(hj:j<l.length):c (l[i]'(by omega)) l[j]<0:=xk.1 hl i j (by omega) hj hij
end
end Go.Our
set_option maxRecDepth 20000
set_option maxHeartbeats 8000000
namespace Go.Proofs.YtlcbipfmodcedaaGreatDoor
open Go.Sx Go.Our Go.Sort Go.Shelf
open _root_.Go.Proofs.Tryz
def Zla:uu:=(Zs [(0,1),(1,1),(2,1),(4,1),(5,1),(6,1),(7,1),(3,2),(8,2),(9,1)])
theorem ZlN(l:List Qd)(n:Nat)(hn:n<=l.length)(hl:l.length*224<=140741783322624):vS prog uf 119 1 [.sl (.loc 0) 0 16 n none] [(0, .rows 16 (l.map Z3))] []
 (fun r O nx=>r= .sl (.loc 0) 0 16 n (some n)/\O=[(0, .rows 16 (l.map Z3))]/\nx=1):=by
 refine vS.enter Z0 call119 func119 rfl 9 rfl rfl [.tmp 2] rfl ?_;intro w0 F η0 h0;conv=>whnf
 repeat'(first|refine u6.mk ⟨by omega,by omega,by omega⟩ ?_|refine AU ?_|refine IW ?_ ?_<;>intro h<;>try omega)<;>conv=>whnf
 refine u0.here h0 (rc:= .sl (.loc 0) 0 16 n (some n)) (Oc:=[(0, .rows 16 (l.map Z3))]) (by simp) rfl (by first|rfl|(simp only[Zl,Zh,Z2 _ (Zo _),zB,zF]<;>rfl)) ⟨rfl,trivial⟩ ⟨rfl,rfl,rfl⟩
theorem Zll(l:List Qd)(hl:l.length*224<=140741783322624):vS prog uf 120 1 [.sl (.loc 0) 0 16 l.length none] [(0, .rows 16 (l.map Z3))] []
 (fun r O nx=>r= .sl (.loc 0) 0 16 (Z5 l).length none/\O=[(0, .rows 16 ((Z5 l++List.replicate (l.length-(Z5 l).length) Kl).map Z3))]/\nx=1):=by
 have fin:∀{m:Nat},m=(Z5 l).length->Z5 l=l->(SV.sl (.loc 0) 0 16 l.length none=SV.sl (.loc 0) 0 16 (Z5 l).length none)/\l.map Z3=(Z5 l++List.replicate (l.length-(Z5 l).length) Kl).map Z3:=fun hm he=>by
  rw[he];simp
 refine vS.enter Z0 call120 func120 rfl 61 rfl rfl [.tmp 2] rfl ?_;intro w0 F η0 h0;conv=>whnf
 refine IF.mk (fun h=>?_) (fun h=>?_)
 .have h:l.length<2:=by simp at h;omega
  obtain⟨f1,f2⟩:=fin rfl (DN h);conv=>whnf
  rw[f1,f2];refine u0.here h0 (rc:= .sl (.loc 0) 0 16 (Z5 l).length none) (Oc:=[(0, .rows 16 ((Z5 l++List.replicate (l.length-(Z5 l).length) Kl).map Z3))]) rfl rfl (by first|rfl|(simp only[Zl,Zh,Z2 _ (Zo _),zB,zF]<;>rfl)) ⟨rfl,trivial⟩ ⟨rfl,rfl,rfl⟩
 have h2:2<=l.length:=by simp at h;omega
 clear h;conv=>whnf
 refine vZ.go Z0 [0] (X:=Nat) (fun k=>1<=k/\k<=l.length/\Z5 (l.take k)=l.take k) (fun k=>[(3, .int .i64 (k:Int))]) (fun k=>[(0, .rows 16 (l.map Z3))]) 1 (fun k=>l.length-k) 1 ⟨by omega,by omega,NZ⟩ ?_;conv=>whnf
 refine⟨by exact vU.cA h0,?_⟩;rintro k ⟨o9,av,hk⟩;conv=>whnf
 rcases zY k l.length with hlt|hge
 .have hs:=Jy o9 hlt;have hk':(IntKind.i64.wrap ((k:Int)-1)).toNat=k-1:=by rw[Z9 (by omega) (by omega)];omega
  repeat'(first|refine Z4 6 Zla ?_|refine Z4 11 Zla ?_|refine wh.mk (fun _ _=>?_)|refine AD ?_|refine qz.mk ?_ ?_|refine GET.at (row:=Z3 (l[k]'(by omega))) (Vc (by omega) (by omega)) ?_|refine GET.at (row:=Z3 (l[k-1]'(by omega))) (Vc (by omega) (by omega)) ?_|refine AU ?_|refine IW ?_ ?_<;>intro h<;>try omega)<;>conv=>whnf
  .have heq:l[k]=l[k-1]:=Qd.ext' (by simp only[Z3,Qd.row,yA,SV.int.injEq,SV.str.injEq,xI,xm];exact h);rw[zf heq,hk]at hs;have hs0:(Z5 (l.take (k+1))).length=k:=by rw[hs];simp;omega
   clear h heq;refine vZ.go Z0 [0,4] (X:=Nat) (fun i=>k+1<=i/\i<=l.length/\(Z5 (l.take i)).length+1<=i/\k<=(Z5 (l.take i)).length) (fun i=>[(3, .int .i64 ((Z5 (l.take i)).length:Int)),(5, .int .i64 ((i-k:Nat):Int))]) (fun i=>[(0, .rows 16 ((Z5 (l.take i)++l.drop (Z5 (l.take i)).length).map Z3))]) 1 (fun i=>l.length-i) (k+1) ⟨by omega,by omega,by omega,by omega⟩ ?_;conv=>whnf
   refine⟨by(refine vU.wE h0 rfl rfl rfl (by first|rfl|(simp only[Zl,Zh,Z2 _ (Zo _),zB,zF]<;>rfl)) ?_ ?_<;>(repeat'(first|(with_reducible rfl)|(exact YA rfl (by first|(simp;done)|omega|(simp;omega)))|(exact z8 (SV.int _) (by first|omega|(simp(disch:=omega) only[wI,Z9,Zp]<;>omega)|(simp;done)|(simp<;>omega)))|(exact z8 (Hp.rows _) (by(rw[hs,zq,x7 av,yW])))|((conv=>whnf);refine⟨?_,?_⟩)|exact trivial|rfl))),?_⟩;rintro i ⟨hi1,hi2,Cf,hi4⟩;obtain⟨C,hC⟩:∃C,C=Z5 (l.take i):=⟨_,rfl⟩;have hsi:=fun h=>Jy (l:=l) (i:=i) (by omega) h;rw[<-hC]at Cf hi4 hsi;dsimp only;rw[<-hC];conv=>whnf
   rcases zY i l.length with hil|hil
   .have hsi:=hsi hil;have hwr:IntKind.i64.wrap (((i-k:Nat):Int)-1)=((i-1-k:Nat):Int):=by rw[Z9 (by omega) (by omega)];omega
    have hg1:((C++l.drop C.length).map Z3)[i]?=some (Z3 l[i]):=rB Z3 (by omega) hil;have hg2:((C++l.drop C.length).map Z3)[i-1]?=some (Z3 (l[i-1]'(by omega))):=rB Z3 (by omega) (by omega);have hg3:((C++l.drop C.length).map Z3)[C.length]?=some (Z3 (l[C.length]'(by omega))):=rB Z3 (zo _) (by omega);repeat'(first|refine Z4 6 Zla ?_|refine Z4 11 Zla ?_|refine wh.mk (fun _ _=>?_)|refine AD ?_|refine qz.mk ?_ ?_|refine GET.at (row:=Z3 (l[i]'(by omega))) (iT hg1 (by omega)) ?_|refine GET.at (row:=Z3 (l[i-1]'(by omega))) (iT hg2 (by rw[hwr];omega)) ?_|refine GET.at (row:=Z3 (l[C.length]'(by omega))) (iT hg3 (by omega)) ?_|refine AU ?_|refine IW ?_ ?_<;>intro h<;>try omega)<;>conv=>whnf
    .have hne:¬l[i]=l[i-1]'(by omega):=fun he=>by rw[he]at h;simp at h
     rw[z7 hne]at hsi;refine⟨i+1,⟨by omega,by omega,by rw[hsi,zh];simp;omega,by rw[hsi,zh];simp;omega⟩,by omega,?_⟩;rw[hsi];conv=>whnf
     (refine vU.wE h0 rfl rfl rfl (by first|rfl|(simp only[Zl,Zh,Z2 _ (Zo _),zB,zF]<;>rfl)) ?_ ?_<;>(repeat'(first|(with_reducible rfl)|(exact YA rfl (by first|(simp;done)|omega|(simp;omega)))|(exact z8 (SV.int _) (by first|omega|(simp(disch:=omega) only[wI,Z9,Zp]<;>omega)|(simp;done)|(simp<;>omega)))|(exact z8 (Hp.rows _) (by(first|(simp only[zx,Int.toNat_natCast];exact FN Z3 _ (by omega))|rfl)))|((conv=>whnf);refine⟨?_,?_⟩)|exact trivial|rfl)))
    .have heq:l[i]=l[i-1]'(by omega):=Qd.ext' (by simp only[Z3,Qd.row,yA,SV.int.injEq,SV.str.injEq,xI,xm];exact h);rw[zf heq]at hsi;refine⟨i+1,⟨by omega,by omega,by rw[hsi];omega,by rw[hsi];omega⟩,by omega,?_⟩;rw[hsi];conv=>whnf
     exact vU.cA h0
   .have nZ:C=Z5 l:=by rw[hC,zg hil]
    have kg:C.length<=l.length:=by omega
    repeat'(first|refine u6.mk (by simp only[zy,zh,zD];omega) ?_|refine u6.mk ⟨by omega,Kc (by omega)⟩ ?_|refine AU ?_|refine IW ?_ ?_<;>intro h<;>try omega)<;>conv=>whnf
    rw[<-nZ];refine u0.here h0 (rc:= .sl (.loc 0) 0 16 C.length none) (Oc:=[(0, .rows 16 ((C++List.replicate (l.length-C.length) Kl).map Z3))]) (by simp) rfl (by first|rfl|(simp only[Zl,Zh,Z2 _ (Zo _),zB,zF]<;>rfl)) ⟨?_,trivial⟩ ⟨rfl,rfl,rfl⟩;refine z8 (Hp.rows 16) ?_;simp only[zx,Int.toNat_natCast];exact MC Z3 Kl kg
  .have hne:¬l[k]=l[k-1]:=fun he=>by rw[he]at h;simp at h
   rw[z7 hne,hk]at hs;refine⟨k+1,⟨by omega,by omega,by rw[hs,zH hlt]⟩,by omega,?_⟩;conv=>whnf
   exact vU.cA h0
 .have hkn:k=l.length:=by omega
  rw[hkn,zg (zo _)]at hk;obtain⟨f1,f2⟩:=fin rfl hk;repeat'(first|refine AU ?_|refine IW ?_ ?_<;>intro h<;>try omega)<;>conv=>whnf
  rw[f1,f2];refine u0.here h0 (rc:= .sl (.loc 0) 0 16 (Z5 l).length none) (Oc:=[(0, .rows 16 ((Z5 l++List.replicate (l.length-(Z5 l).length) Kl).map Z3))]) rfl rfl (by first|rfl|(simp only[Zl,Zh,Z2 _ (Zo _),zB,zF]<;>rfl)) ⟨rfl,trivial⟩ ⟨rfl,rfl,rfl⟩
end Go.Proofs.YtlcbipfmodcedaaGreatDoor
namespace Go.Proofs.YtlcbipfmodcedaaGreatDoor
open Go.Sx Go.Our
open _root_.Go.Proofs.Tryz
theorem Zlr(l z:List Qd)(lim:Option Nat)(hl:l.length*224<=140741783322624):vS prog uf 84 1 [.sl (.loc 0) 0 16 l.length lim, .fn (.func 47) [] []] [] [(0, .rows 16 ((l++z).map Z3))]
 (ZjP Z3 16 1 Kl l.length (wj ZP l)):=by
 have hm:(l.mergeSort (q9 ZP)).length=l.length:=yt l;have hc:=DM (l.mergeSort (q9 ZP));have oF:(Z5 (l.mergeSort (q9 ZP))++List.replicate ((l.mergeSort (q9 ZP)).length-(Z5 (l.mergeSort (q9 ZP))).length) Kl).length*224<=140741783322624:=by rw[zh,yK];omega
 refine vS.enter Z0 call84 func84 rfl 14 rfl rfl [.tmp 4] rfl ?_;intro w0 F η0 h0;conv=>whnf
 refine CALL.aA [0] (Z9r l z lim hl) ?_;rintro r O nx ⟨rfl,rfl,rfl⟩;conv=>whnf
 refine CALL.aA [1] (ME l hl) ?_;rintro r O nx ⟨rfl,rfl,rfl⟩;conv=>whnf
 rw[<-hm];refine CALL.aA [1] (Zll (l.mergeSort (q9 ZP)) (by omega)) ?_;rintro r O nx ⟨rfl,rfl,rfl⟩;conv=>whnf
 refine CALL.aA [1] (ZlN (Z5 (l.mergeSort (q9 ZP))++List.replicate ((l.mergeSort (q9 ZP)).length-(Z5 (l.mergeSort (q9 ZP))).length) Kl) (Z5 (l.mergeSort (q9 ZP))).length (by simp) oF) ?_;rintro r O nx ⟨rfl,rfl,rfl⟩;conv=>whnf
 refine u0.aA h0 [1] (.sl (.loc 1) 0 16 (wj ZP l).length (some (wj ZP l).length)) [(1, .rows 16 ((wj ZP l++List.replicate ((l.mergeSort (q9 ZP)).length-(Z5 (l.mergeSort (q9 ZP))).length) Kl).map Z3))] ?_;exact⟨_,by unfold wj;omega,rfl,rfl,rfl⟩
theorem Zlw(l z:List Qd)(lim:Option Nat)(hl:l.length*224<=140741783322624):vS prog uf 45 1 [.sl (.loc 0) 0 16 l.length lim] [] [(0, .rows 16 ((l++z).map Z3))] (ZjP Z3 16 1 Kl l.length (wj ZP l)):=by
 refine vS.enter Z0 call45 func45 rfl 5 rfl rfl [.tmp 2] rfl ?_;intro w0 F η0 h0;conv=>whnf
 refine CALL.aA [0] (Zlr l z lim hl) ?_;rintro r O nx ⟨j,hj,rfl,rfl,rfl⟩;conv=>whnf
 refine u0.aA h0 [1] (.sl (.loc 1) 0 16 (wj ZP l).length (some (wj ZP l).length)) [(1, .rows 16 ((wj ZP l++List.replicate j Kl).map Z3))] ?_;exact⟨j,hj,rfl,rfl,rfl⟩
theorem ZlO(l z:List Qd)(lim:Option Nat)(hl:JS l):vS prog uf 45 1 [.sl (.loc 0) 0 16 l.length lim] [] [(0, .rows 16 ((l++z).map Z3))] (ZjP Z3 16 1 Kl l.length (wj ZP l)):=Zlw l z lim (by unfold JS at hl;omega)
end Go.Proofs.YtlcbipfmodcedaaGreatDoor
namespace Go.Our
open Go.Sx
theorem ZlP{x:Tm}(h:JA x=0):x.k=1\/x.k=2\/x.k=3:=by
 unfold JA at h;split at h
 omega
 .split at h
  omega;omega
end Go.Our
namespace Go.Proofs.YtlcbipfmodcedaaGreatDoor
open Go.Sx Go.Our
open _root_.Go.Proofs.Tryz
theorem ZlQ(l z:List Qd)(hl:JS l)(hq:tJ l):vS prog uf 21 1 [.sl (.loc 0) 0 16 l.length none] [] [(0, .rows 16 ((l++z).map Z3))] (w6 1 (.uz [.int .i64 ((YL l).1:Nat), .int .i64 (YL l).2])):=Z9M l z none (by unfold JS at hl;omega) hq
end Go.Proofs.YtlcbipfmodcedaaGreatDoor
namespace Go.Our
open Go.Sx
theorem ZlU{s:List UInt8}(h:dP s=0):s.length<=65536:=by
 unfold dP at h;split at h
 omega
 .rename_i h1;have h1:dN s=0:=by omega
  unfold dN at h1;split at h1
  omega;omega
theorem ZlV{x:Tm}(h:JA x=0):x.t.length<=65536/\x.y.length<=65536/\x.l.length<=65536:=by
 unfold JA at h;split at h
 .split at h
  omega
  .rename_i hk hn;simp only[ne_eq,not_or,Decidable.not_not]at hn;rw[hn.1,hn.2];split at h
   exact⟨ZlU h,by simp,by simp⟩
   .split at h
    omega;exact⟨by omega,by simp,by simp⟩
 .split at h
  .unfold eR at h;split at h
   omega;split at h
   omega;split at h
   rename_i h1;exact(h1 h).elim;split at h
   omega;rename_i h1 h2 h3 h4;refine⟨by omega,ZlU (by simpa using h3),?_⟩;by_cases e:x.l=[]
   rw[e];simp
   .have:¬65536<x.l.length:=fun hl=>h4 ⟨e,hl⟩;omega
  omega
theorem ZlW:∀(l:List Qd),(l.zip l.tail).all (fun x=>decide (ZP x.1 x.2<0))=true->wQ ZP l:=by
 intro l h;refine Z87 fun k hk h1=>?_;rw[zT]at h
 have:=h (l[k-1]'(by omega),l[k]) (by
  rw[yM];refine⟨k-1,by simp;omega,?_⟩;simp only[List.getElem_zip,List.getElem_tail];congr 1
  congr 1;omega)
 exact of_decide_eq_true this
end Go.Our
namespace Go.Sx
open Go
section
variable {M:Mx}{fr:Fr}{O O1 O2:vX}{nx n1 n2:Nat}
theorem ZkP{m:Nat}{rs:List (List SV)}(h:Zj rs=true):Zh m (.mp rs)=true:=Yz m (h:= .mp rs) h
end
end Go.Sx
namespace Go.Proofs.YtlcbipfmodcedaaGreatDoor
open Go.Sx Go.Our
def ZlX(a b:List Qd):Int:=if(YL a).2≠0 then(YL a).2 else(YL b).2
end Go.Proofs.YtlcbipfmodcedaaGreatDoor
namespace Go.Our
open Go.Sx
def ZkT(ps:List Pr):Nat->List (List SV)
 |0=>[]
 |n+1=>jZ KS (.str (ps.getD (ps.length-(n+1)) ([],[])).1) (.int .i64 ((ps.length-(n+1):Nat):Int)) (ZkT ps n)
theorem ZkU(ps:List Pr):∀n,qB (ZkT ps n)
 |0=>fun r hr=>by cases hr
 |n+1=>(DY (ZkU ps n) _ _ []).1
theorem Zlj(ps:List Pr)(a:List UInt8):∀n,n<=ps.length->jQ (ZkT ps n) a=((ps.drop (ps.length-n)).findIdx? fun p=>decide (p.1=a)).map fun i=>SV.int .i64 ((ps.length-n+i:Nat):Int)
 |0,h=>by rw[Nat.sub_zero,vw];rfl
 |n+1,h=>by
  have hlt:ps.length-(n+1)<ps.length:=by omega
  have hd:ps.drop (ps.length-(n+1))=ps[ps.length-(n+1)]::ps.drop (ps.length-n):=by
   rw[zm hlt,show ps.length-(n+1)+1=ps.length-n by omega]
  have hg:ps.getD (ps.length-(n+1)) ([],[])=ps[ps.length-(n+1)]:=by simp[List.getD,hlt]
  unfold ZkT;rw[(DY (ZkU ps n) _ _ a).2,Zlj ps a n (by omega),hd,hg,List.findIdx?_cons];by_cases e:ps[ps.length-(n+1)].1=a
  rw[zf e.symm,yq e];simp
  .rw[z7 (fun h=>e h.symm),y5 e];simp only[xZ,xG,Option.map_map];congr 1;funext i;simp only[Function.comp];rw[show ps.length-(n+1)+(i+1)=ps.length-n+i by omega]
theorem Zls(ps:List Pr)(a:List UInt8):jQ (ZkT ps ps.length) a=(ps.findIdx? fun p=>decide (p.1=a)).map fun(i:Nat)=>SV.int .i64 (i:Int):=by
 have:=Zlj ps a ps.length (zo _);simpa using this
end Go.Our
namespace Go.Our
def z15(x y:List (List UInt8))(ps:List Pr):Bool:=
 decide (ps.length=x.length)&&decide (x.length=y.length)&&decide ((ps.map Prod.fst).mergeSort (q9 cmpL)=x)&&decide ((ps.map Prod.snd).mergeSort (q9 cmpL)=y)
section
variable {K:Type}[DecidableEq K]{c:K->K->Int}
theorem ZlY:∀{x l:List K},x.Nodup->l.length=x.length->(∀z∈x,z∈l)->l.Perm x
 | [],l,_,hl,_=>by
   have:l=[]:=zM.1 (by simpa using hl);rw[this]
 |z::x,l,hn,hl,hs=>by
  have hn':=List.nodup_cons.1 hn;have hz:=hs z (zJ ..);have:=ZlY (x:=x) (l:=l.erase z) hn'.2 (by rw[List.length_erase_of_mem hz,hl];simp) (fun w hw=>(List.mem_erase_of_ne (fun(e:w=z)=>hn'.1 (by rw[<-e];exact hw))).2 (hs w (zK _ hw)));exact(List.perm_cons_erase hz).trans (this.cons z)
end
end Go.Our
namespace Go.Our
open Go Go.Sx
inductive Out where
 |found (ys:List Nat) (left:Nat)
 |none (left:Nat)
 |over
structure Ps(n:Nat)(ok:Nat->Nat->Bool)(ys:List Nat):Prop where
 lt:∀y∈ys,y<n
 nd:ys.Nodup
 ok:∀i (h:i<ys.length),ok i ys[i]=true
end Go.Our
namespace Go.Proofs.YtlcbipfmodcedaaGreatDoor
open Go.Sx Go.Our
def ZmB(BY:List Qd):List (List SV):=Up KQ jC (BY.map fun q=>(q,(1:Int)))
instance {BY:List Qd}:Pl (ZmB BY):=⟨DT KQ jC (fun _=>rfl) _⟩
end Go.Proofs.YtlcbipfmodcedaaGreatDoor
namespace Go.Sx
open Go
structure z2g(M:Mx)(f:FuncId)(cap:List SV)(O:vX)(nx:Nat)(K:vX->Nat->Prop):Prop where
 out:∀J w vs,vR M J w O nx->vV J cap vs->∃g,(callFunc f ⟨vs⟩).run M.P w= .ok (.enter g ⟨vs⟩) w/\
  CallsDIn Fence.wide 0 M.P g ⟨vs⟩ .returning w fun e u w'=> ∃v,e= .returned v/\u= .returning/\∃η' O' vW,J<+:η'/\vR M η' w' O' vW/\K O' vW
structure z2h(M:Mx)(f:FuncId)(cap:List SV)(p:SV)(O:vX)(nx:Nat)(K:vX->Nat->Prop):Prop where
 out:∀J w vs x,vR M J w O nx->vV J cap vs->Den J p x->∃g,(callFunc f ⟨vs⟩).run M.P w= .ok (.enter g ⟨vs⟩) w/\
  CallsDIn Fence.wide 0 M.P g ⟨vs⟩ (.panicking [{v:=x,recovered:=false}]) w fun e u w'=> ∃v,e= .returned v/\u= .panicking [{v:=x,recovered:=true}]/\∃η' O' vW,J<+:η'/\vR M η' w' O' vW/\K O' vW
end Go.Sx
namespace Go.Proofs.YtlcbipfmodcedaaGreatDoor
open Go.Sx Go.Our
theorem ZkX{l:List Qd}{q:Qd}{t:Tm}(hq:q∈l)(ht:t∈nY q)(hk:t.k=2):t.t∈ZQ l:=by
 refine(JI _ _).2 (xV.2 ⟨q,hq,?_⟩);have hb:t.t∈Y0 t:=by unfold Y0;rw[zf hk];exact vO _
 unfold nY at ht;unfold Zw;simp only[zL,xq,or_false]at ht;simp only[zQ];rcases ht with rfl|rfl|rfl|rfl
 exact .inl (.inl (.inl hb));exact .inl (.inl (.inr hb));exact .inl (.inr hb);exact .inr hb
def z0s(A B:List LB)(zs:List Nat):List Pr:=List.zipWith (fun x y=>(x,B.getD y [])) A zs
theorem XD{A B:List LB}{zs:List Nat}(h:zs.length<=A.length):(z0s A B zs).length=zs.length:=by unfold z0s;rw[List.length_zipWith];omega
theorem ZlZ{p:Pr}{ps:List Pr}{s:LB}:dM (p::ps) s=if p.1=s then some p.2 else dM ps s:=by
 unfold dM;rw[List.find?_cons];by_cases h:p.1=s
 simp[h];simp[h]
def z0l(ps:List Pr)(t:Tm):Tm:=if t.k=2 then{t with t:=(dM ps t.t).getD []}else t
def z16(ps:List Pr)(q:Qd):Qd:=⟨z0l ps q.s,z0l ps q.p,z0l ps q.o,z0l ps q.g⟩
def inQ(last:LB)(q:Qd):Bool:=(nY q).any fun t=>decide (t.k=2)&&decide (t.t=last)
section
variable {a b:List Qd}{zs:List Nat}(hAB:(ZQ b).length=(ZQ a).length)(hz:zs.length<=(ZQ a).length)
include hz in
end
theorem Zmj{x:Tm}(h:JA x=0):cU 1048576 x:=by
 have h1:=ZlV h;have h2:=ZlP h;unfold cU B9;omega
theorem ZmJ{q:Qd}(h:Vj q=0):cU 1048576 q.s/\cU 1048576 q.p/\cU 1048576 q.o/\cU 1048576 q.g:=by
 obtain⟨h1,h2,h3,h4,_⟩:=Z9N h;refine⟨Zmj h1,Zmj h2,Zmj h3,?_⟩;rcases h4 with e|e
 rw[e];unfold cU B9 ZC;decide;exact Zmj e
structure z01(l:List Qd):Prop where
 z52:wQ ZP l
 few:l.length<=1048576
 ck:∀q∈l,Vj q=0
theorem Zms{l:List Qd}(h:(YL l).2=0):z01 l:=⟨(Wy h).1,(Wy h).2,Z8z h⟩
end Go.Proofs.YtlcbipfmodcedaaGreatDoor
namespace Go.Our
open Go Go.Sx
structure Path(n:Nat)(ok:Nat->Nat->Bool)(fits:List Nat->Bool)(ys zs:List Nat)(d:Nat):Prop where
 pre:ys<+:zs
 len:zs.length=ys.length+d
 nd:zs.Nodup
 lt:∀z∈zs,z<n
 ok:∀i (h:i<zs.length),ys.length<=i->ok i zs[i]=true
 fit:∀k,ys.length<k->k<=zs.length->fits (zs.take k)=true
theorem Path.step{n:Nat}{ok:Nat->Nat->Bool}{fits:List Nat->Bool}{ys zs:List Nat}{d:Nat}(h:Path n ok fits ys zs (d+1)):∃z,z<n/\z∉ys/\ok ys.length z=true/\fits (ys++ [z])=true/\Path n ok fits (ys++ [z]) zs d/\zs[ys.length]?=some z:=by
 obtain⟨w,hw⟩:=h.pre;have hl:=h.len;cases w with
 |nil=>rw[<-hw]at hl;simp at hl
 |cons z w=>
  subst hw;have hg:(ys++z::w)[ys.length]?=some z:=by rw[zw (zo _)];simp
  have hlt:ys.length< (ys++z::w).length:=by simp
  have hge:(ys++z::w)[ys.length]'hlt=z:=by rw[z1 hlt]at hg;injection hg
  have htk:(ys++z::w).take (ys.length+1)=ys++ [z]:=by rw[List.take_append,zg (by omega),show ys.length+1-ys.length=1 by omega];rfl
  refine⟨z,h.lt z (by simp),?_,?_,?_,⟨⟨w,by simp⟩,by simp at hl⊢;omega,h.nd,h.lt,fun i hi hy=>h.ok i hi (by simp at hy;omega),fun k hk hk2=>h.fit k (by simp at hk;omega) hk2⟩,hg⟩
  .intro hm;have:=(List.nodup_append.1 h.nd).2.2 z hm z (by simp);exact this rfl
  .have:=h.ok ys.length hlt (zo _);rwa [hge]at this
  .have:=h.fit (ys.length+1) (by omega) hlt;rwa [htk]at this
end Go.Our
namespace Go.Proofs.YtlcbipfmodcedaaGreatDoor
open Go.Sx Go.Our
open _root_.Go.Proofs.Tryz
def Zlm:uu:=(Zs [(1,1),(2,1),(3,1),(0,2),(4,2),(5,3),(6,1),(7,1),(8,1),(9,1),(10,1)])
theorem Zl5{ps:List Pr}{t:Tm}{u:List UInt8}(hk:t.k=2)(h:dM ps t.t=some u):nX ps t=⟨t.k,u,t.y,t.l⟩:=by unfold nX;rw[zf hk,h]
theorem Zl0{ps:List Pr}{t:Tm}(hk:¬t.k=2):nX ps t=t:=by unfold nX;rw[z7 hk]
theorem Zl1{ps:List Pr}{t:Tm}(h:dM ps t.t=none):nX ps t=t:=by unfold nX;rw[h];split<;>rfl
theorem Zlb{ps:List Pr}{s:List UInt8}{idx:Nat}{v:SV}(hf:Xs KS (.str s) 0 (ZkT ps ps.length)=some (idx,v)):∃(i0:Nat) (h:i0<ps.length),v= .int .i64 (i0:Int)/\dM ps s=some (ps[i0]'h).2:=by
 have h1:jQ (ZkT ps ps.length) s=some v:=by unfold jQ;rw[hf];rfl
 rw[Zls]at h1;obtain⟨i0,h2,rfl⟩:=zC.1 h1;obtain⟨h3,h4,h5⟩:=List.findIdx?_eq_some_iff_getElem.1 h2;refine⟨i0,h3,rfl,?_⟩;unfold dM
 have:ps.find? (fun p=>decide (p.1=s))=some ps[i0]:=by
  rw[List.find?_eq_some_iff_getElem];exact⟨h4,i0,h3,rfl,fun j hj=>by have:=h5 j hj;simpa using this⟩
 rw[this];rfl
theorem Zln{ps:List Pr}{s:List UInt8}(hf:Xs KS (.str s) 0 (ZkT ps ps.length)=none):dM ps s=none:=by
 have h1:jQ (ZkT ps ps.length) s=none:=by unfold jQ;rw[hf];rfl
 rw[Zls,Option.map_eq_none_iff,List.findIdx?_eq_none_iff]at h1;unfold dM;rw[List.find?_eq_none.2 (fun x hx=>by have:=h1 x hx;simpa using this)];rfl
theorem Zld:∀{rs:List (List SV)},Zj rs=true<->∀r∈rs,YJ r=true
 | []=>by simp[Zj]
 |r::rs=>by simp[Zj,Zld (rs:=rs)]
theorem Zm0{rs:List (List SV)}(h:Zj rs=true)(k:List UInt8)(i:Int):Zj (jZ KS (.str k) (.int .i64 i) rs)=true:=by
 rw[Zld]at h⊢;unfold jZ;split
 .intro r hr;obtain⟨j,hj,rfl⟩:=yM.1 hr;rw[List.getElem_modify];have h0:=h (rs[j]'(by simpa using hj)) (zk _);split
  .generalize rs[j]'(by simpa using hj)=r0 at h0;unfold ew;split
   .simp only[YJ,plain,zF]at h0⊢;simpa using(by simpa using h0:plain _=true/\plain _=true).1
   exact h0
  exact h0
 .intro r hr;rcases zQ.1 hr with hr|hr
  exact h r hr;have:=zI.1 hr;subst this;rfl
theorem ZkO(ps:List Pr):∀n,Zj (ZkT ps n)=true
 |0=>rfl
 |n+1=>Zm0 (ZkO ps n) _ _
theorem ZkP{m:Nat}{rs:List (List SV)}(h:Zj rs=true):Zh m (.mp rs)=true:=by simp only[Zh,Z2 _ h]
def upQ(ps:List Pr)(q:Qd):Nat->Qd
 |0=>q
 |1=>⟨nX ps q.s,q.p,q.o,q.g⟩
 |2=>⟨nX ps q.s,nX ps q.p,q.o,q.g⟩
 |3=>⟨nX ps q.s,nX ps q.p,nX ps q.o,q.g⟩
 |_=>oE ps q
theorem up0{ps:List Pr}{q:Qd}:upQ ps q 0=⟨q.s,q.p,q.o,q.g⟩:=rfl
theorem up1{ps:List Pr}{q:Qd}:upQ ps q 1=⟨nX ps q.s,q.p,q.o,q.g⟩:=rfl
theorem up2{ps:List Pr}{q:Qd}:upQ ps q 2=⟨nX ps q.s,nX ps q.p,q.o,q.g⟩:=rfl
theorem up3{ps:List Pr}{q:Qd}:upQ ps q 3=⟨nX ps q.s,nX ps q.p,nX ps q.o,q.g⟩:=rfl
theorem up4{ps:List Pr}{q:Qd}:upQ ps q 4=⟨nX ps q.s,nX ps q.p,nX ps q.o,nX ps q.g⟩:=rfl
theorem Zlo(n:Nat)(lim:Option Nat):vS prog uf 43 1 [.sl (.loc 0) 0 2 n lim] [] []
 (fun r O nx=>r= .fn (.func 83) [] [.ptr (.loc 1) 0 0 0]/\O=[(1, .box [.sl (.loc 0) 0 2 n lim])]/\nx=2):=by
 refine vS.enter Z0 call43 func43 rfl 4 rfl rfl [.tmp 2] rfl ?_;intro w0 F η0 h0;conv=>whnf
 repeat'(first|refine AU ?_|refine IW ?_ ?_<;>intro h<;>try omega)<;>conv=>whnf
 refine u0.at h0 [1] (.fn (.func 83) [] [.ptr (.loc 1) 0 0 0]) [(1, .box [.sl (.loc 0) 0 2 n lim])] rfl rfl rfl rfl ⟨rfl,trivial⟩ rfl ⟨rfl,rfl,rfl⟩
theorem Zlx(l z:List Qd)(lim:Option Nat)(ps zp:List Pr)(nL:Option Nat)(hl:JS l)(hz:(l++z).length<=1152921504606846976)(hp:(ps++zp).length<=1152921504606846976):vS prog uf 20 2 [.sl (.loc 0) 0 16 l.length lim, .sl (.loc 1) 0 2 ps.length nL] [] [(0, .rows 16 ((l++z).map Z3)),(1, .rows 2 ((ps++zp).map Yu))]
 (ZjP Z3 16 2 Kl l.length (wj ZP (l.map (oE ps)))):=by
 unfold JS at hl;have hp1:(ps++zp).length=ps.length+zp.length:=zh;refine vS.enter Z0 call20 func20 rfl 67 rfl rfl [.tmp 4] rfl ?_;intro w0 F η0 h0;conv=>whnf
 repeat'(first|refine AU ?_|refine IW ?_ ?_<;>intro h<;>try omega)<;>conv=>whnf
 refine CALL.aA [1] (Zlo ps.length nL) ?_;rintro r O nx ⟨rfl,rfl,rfl⟩;conv=>whnf
 repeat'(first|refine AU ?_|refine IW ?_ ?_<;>intro h<;>try omega)<;>conv=>whnf
 refine qQ.of Z0 (gf:=83) (g:=83) (fn:=f83) (cap:=[.ptr (.loc 4) 0 0 0]) call83 func83 rfl 19 rfl _ rfl rfl rfl rfl rfl ?_;conv=>whnf
 have hout:=h0;intro η1 h0;conv=>whnf
 repeat'(first|refine AU ?_|refine IW ?_ ?_<;>intro h<;>try omega)<;>conv=>whnf
 refine vZ.kj Z0 [0,1] [3,4,5,6] (X:=Nat) (fun m=>m<=ps.length) (fun m=>[(3, .int .i64 ((ps.length:Int)-1-(m:Int)))]) (fun m=>[(2, .mp (ZkT ps m))]) 7 (fun m=>ps.length-m) 0 (by omega) ?_;conv=>whnf
 have hmp:ZkT ps 0=ZkT ps 0:=rfl;refine⟨by(refine vU.wE h0 rfl rfl rfl (by(repeat'(first|(refine Yf rfl ?_ ?_)|exact Yi (Zo _)|exact WO (Zo _)|exact Yi (VG _)|exact WO (VG _)|exact ZkP (ZkO _ _)|rfl))) ?_ ?_<;>(repeat'(first|(exact z8 Hp.mp (by first|rfl|exact hmp))|(with_reducible rfl)|exact trivial|(exact YA rfl (by first|omega|(simp(disch:=omega) only[wI,Z9,Zp]<;>omega)|(simp;done)|(simp<;>omega)))|(exact z8 (SV.int _) (by first|omega|(simp(disch:=omega) only[wI,Z9,Zp]<;>omega)|(simp;done)|(simp<;>omega)))|(exact Kj (by first|omega|(simp(disch:=omega) only[wI,Z9,Zp]<;>omega)|(simp;done)|(simp<;>omega)))|(exact Kk (by first|omega|(simp(disch:=omega) only[wI,Z9,Zp]<;>omega)|(simp;done)|(simp<;>omega)))|(exact Zv _ (h:= .rows _ _) (Zo _))|(exact Zv _ (h:= .rows _ _) (VG _))|(exact z8 (Hp.rows _) (by rfl))|((conv=>whnf);refine⟨?_,?_⟩)|rfl))),?_⟩;clear hmp;intro m hm;conv=>whnf
 by_cases hml:m<ps.length
 .have hsub:ps.length-(m+1)<ps.length:=by omega
  have hmp:jZ KS (.str (ps[ps.length-(m+1)]'hsub).1) (.int .i64 ((ps.length:Int)-1-(m:Int))) (ZkT ps m)=ZkT ps (m+1):=by
   conv=>rhs;unfold ZkT
   have hg:ps.getD (ps.length-(m+1)) ([],[])=ps[ps.length-(m+1)]'hsub:=by simp[List.getD,hsub]
   rw[hg,show((ps.length-(m+1):Nat):Int)=(ps.length:Int)-1-(m:Int)by omega]
  repeat'(first|refine GET.at (row:=Yu (ps[ps.length-(m+1)]'hsub)) (Zk7 (by omega) (by omega)) ?_|refine AU ?_|refine IW ?_ ?_<;>intro h<;>try omega)<;>conv=>whnf
  refine eU.of Z0 rfl rfl rfl ?_;intro η2 ro2 h2;conv=>whnf
  repeat'(first|refine u6.mk ⟨ZdP _,(ZkU ps m).ok⟩ ?_|refine AU ?_|refine IW ?_ ?_<;>intro h<;>try omega)<;>conv=>whnf
  refine⟨m+1,by omega,by omega,?_⟩;conv=>whnf
  (refine vU.wE h0 rfl rfl rfl (by(repeat'(first|(refine Yf rfl ?_ ?_)|exact Yi (Zo _)|exact WO (Zo _)|exact Yi (VG _)|exact WO (VG _)|exact ZkP (ZkO _ _)|rfl))) ?_ ?_<;>(repeat'(first|(exact z8 Hp.mp (by first|rfl|exact hmp))|(with_reducible rfl)|exact trivial|(exact YA rfl (by first|omega|(simp(disch:=omega) only[wI,Z9,Zp]<;>omega)|(simp;done)|(simp<;>omega)))|(exact z8 (SV.int _) (by first|omega|(simp(disch:=omega) only[wI,Z9,Zp]<;>omega)|(simp;done)|(simp<;>omega)))|(exact Kj (by first|omega|(simp(disch:=omega) only[wI,Z9,Zp]<;>omega)|(simp;done)|(simp<;>omega)))|(exact Kk (by first|omega|(simp(disch:=omega) only[wI,Z9,Zp]<;>omega)|(simp;done)|(simp<;>omega)))|(exact Zv _ (h:= .rows _ _) (Zo _))|(exact Zv _ (h:= .rows _ _) (VG _))|(exact z8 (Hp.rows _) (by rfl))|((conv=>whnf);refine⟨?_,?_⟩)|rfl)))
 .have hme:m=ps.length:=by omega
  subst hme;repeat'(first|refine AU ?_|refine IW ?_ ?_<;>intro h<;>try omega)<;>conv=>whnf
  have h0:=hout;refine vZ.nil 8 16 rfl ?_;refine vZ.kj Z0 [1,5,24,25] [2,3,5] (X:=Nat) (fun i=>i<=l.length) (fun i=>[(26, .int .i64 (i:Int)),(8, .sl (.loc 7) 0 16 ((l.take i).map (oE ps)).length none)]) (fun i=>[(7, .rows 16 (((l.take i).map (oE ps)).map Z3))]) 8 (fun i=>l.length-i) 0 (by omega) ?_;conv=>whnf
  refine⟨by(refine vU.wE h0 rfl rfl rfl (by(repeat'(first|(refine Yf rfl ?_ ?_)|exact Yi (Zo _)|exact WO (Zo _)|exact Yi (VG _)|exact WO (VG _)|exact ZkP (ZkO _ _)|rfl))) ?_ ?_<;>(repeat'(first|(with_reducible rfl)|exact trivial|(exact YA rfl (by first|omega|(simp(disch:=omega) only[wI,Z9,Zp]<;>omega)|(simp;done)|(simp<;>omega)))|(exact z8 (SV.int _) (by first|omega|(simp(disch:=omega) only[wI,Z9,Zp]<;>omega)|(simp;done)|(simp<;>omega)))|(exact Kj (by first|omega|(simp(disch:=omega) only[wI,Z9,Zp]<;>omega)|(simp;done)|(simp<;>omega)))|(exact Kk (by first|omega|(simp(disch:=omega) only[wI,Z9,Zp]<;>omega)|(simp;done)|(simp<;>omega)))|(exact Zv _ (h:= .rows _ _) (Zo _))|(exact Zv _ (h:= .rows _ _) (VG _))|(exact z8 (Hp.rows _) (by rfl))|((conv=>whnf);refine⟨?_,?_⟩)|rfl))),?_⟩;intro i hi;have mR:((l.take i).map (oE ps)).length=i:=by simp;omega
  conv=>whnf
  by_cases hil:i<l.length
  .have hs:=ZgQ (oE ps) hil;generalize(l.take i).map (oE ps)=out at*;repeat'(first|refine GET.at (row:=Z3 (l[i]'(by omega))) (Cj (by omega) (by omega)) ?_|refine AU ?_|refine IW ?_ ?_<;>intro h<;>try omega)<;>conv=>whnf
   refine CALL.aA [8] (Zeb (l[i]'(by omega))) ?_;rintro r O nx ⟨rfl,rfl,rfl⟩;conv=>whnf
   obtain⟨q,hq⟩:∃q,q=l[i]:=⟨_,rfl⟩;refine vZ.kj Z0 [1,5,8,10,24,25,26,30] [2,3,5,7] (X:=Nat) (fun j=>j<=4) (fun j=>[(31, .int .i64 (j:Int))]) (fun j=>[(8, .box (Z3 (upQ ps l[i] j)))]) 9 (fun j=>4-j) 0 (by omega) ?_;rw[<-hq];rw[<-hq]at hs;clear hq;conv=>whnf
   refine⟨by(refine vU.wE h0 rfl rfl rfl (by(repeat'(first|(refine Yf rfl ?_ ?_)|exact Yi (Zo _)|exact WO (Zo _)|exact Yi (VG _)|exact WO (VG _)|exact ZkP (ZkO _ _)|rfl))) ?_ ?_<;>(repeat'(first|(with_reducible rfl)|exact trivial|(exact YA rfl (by first|omega|(simp(disch:=omega) only[wI,Z9,Zp]<;>omega)|(simp;done)|(simp<;>omega)))|(exact z8 (SV.int _) (by first|omega|(simp(disch:=omega) only[wI,Z9,Zp]<;>omega)|(simp;done)|(simp<;>omega)))|(exact Kj (by first|omega|(simp(disch:=omega) only[wI,Z9,Zp]<;>omega)|(simp;done)|(simp<;>omega)))|(exact Kk (by first|omega|(simp(disch:=omega) only[wI,Z9,Zp]<;>omega)|(simp;done)|(simp<;>omega)))|(exact Zv _ (h:= .rows _ _) (Zo _))|(exact Zv _ (h:= .rows _ _) (VG _))|(exact z8 (Hp.rows _) (by rfl))|((conv=>whnf);refine⟨?_,?_⟩)|rfl))),?_⟩;intro j hj;by_cases tD:j<4
   .obtain rfl|rfl|rfl|rfl:j=0\/j=1\/j=2\/j=3:=by omega
    ·
     rw[up0];conv=>whnf
     repeat'(first|refine Z4 13 Zlm ?_|refine wh.mk (fun _ _=>?_)|refine AD ?_|refine qz.mk ?_ ?_|refine u6.mk ⟨by decide,by decide,rfl⟩ ?_|refine u6.mk ⟨ZdP _,(ZkU ps ps.length).ok⟩ ?_|refine AU ?_|refine IW ?_ ?_<;>intro h<;>try omega)<;>conv=>whnf
     refine eu.mk (fun idx v hf=>?_) (fun hf=>?_)
     .obtain⟨i0,hi0,rfl,hto⟩:=Zlb hf;conv=>whnf
      repeat'(first|refine GET.at (row:=Yu (ps[i0]'(by omega))) (Zk7 (by omega) (by omega)) ?_|refine u6.mk ⟨by decide,by decide,rfl⟩ ?_|refine AU ?_|refine IW ?_ ?_<;>intro h<;>try omega)<;>conv=>whnf
      .have hn:=Zl5 (t:=q.s) (by omega) hto;refine⟨1,by omega,by omega,?_⟩;rw[up1,hn];conv=>whnf
       (refine vU.wE h0 rfl rfl rfl (by(repeat'(first|(refine Yf rfl ?_ ?_)|exact Yi (Zo _)|exact WO (Zo _)|exact Yi (VG _)|exact WO (VG _)|exact ZkP (ZkO _ _)|rfl))) ?_ ?_<;>(repeat'(first|(with_reducible rfl)|exact trivial|(exact YA rfl (by first|omega|(simp(disch:=omega) only[wI,Z9,Zp]<;>omega)|(simp;done)|(simp<;>omega)))|(exact z8 (SV.int _) (by first|omega|(simp(disch:=omega) only[wI,Z9,Zp]<;>omega)|(simp;done)|(simp<;>omega)))|(exact Kj (by first|omega|(simp(disch:=omega) only[wI,Z9,Zp]<;>omega)|(simp;done)|(simp<;>omega)))|(exact Kk (by first|omega|(simp(disch:=omega) only[wI,Z9,Zp]<;>omega)|(simp;done)|(simp<;>omega)))|(exact Zv _ (h:= .rows _ _) (Zo _))|(exact Zv _ (h:= .rows _ _) (VG _))|(exact z8 (Hp.rows _) (by rfl))|((conv=>whnf);refine⟨?_,?_⟩)|rfl)))
      .have hn:=Zl0 (ps:=ps) (t:=q.s) (by omega);refine⟨1,by omega,by omega,?_⟩;rw[up1,hn];conv=>whnf
       (refine vU.wE h0 rfl rfl rfl (by(repeat'(first|(refine Yf rfl ?_ ?_)|exact Yi (Zo _)|exact WO (Zo _)|exact Yi (VG _)|exact WO (VG _)|exact ZkP (ZkO _ _)|rfl))) ?_ ?_<;>(repeat'(first|(with_reducible rfl)|exact trivial|(exact YA rfl (by first|omega|(simp(disch:=omega) only[wI,Z9,Zp]<;>omega)|(simp;done)|(simp<;>omega)))|(exact z8 (SV.int _) (by first|omega|(simp(disch:=omega) only[wI,Z9,Zp]<;>omega)|(simp;done)|(simp<;>omega)))|(exact Kj (by first|omega|(simp(disch:=omega) only[wI,Z9,Zp]<;>omega)|(simp;done)|(simp<;>omega)))|(exact Kk (by first|omega|(simp(disch:=omega) only[wI,Z9,Zp]<;>omega)|(simp;done)|(simp<;>omega)))|(exact Zv _ (h:= .rows _ _) (Zo _))|(exact Zv _ (h:= .rows _ _) (VG _))|(exact z8 (Hp.rows _) (by rfl))|((conv=>whnf);refine⟨?_,?_⟩)|rfl)))
     .have hto:=Zln hf;have hn:=Zl1 (t:=q.s) hto;conv=>whnf
      repeat'(first|refine u6.mk ⟨by decide,by decide,rfl⟩ ?_|refine AU ?_|refine IW ?_ ?_<;>intro h<;>try omega)<;>conv=>whnf
      refine⟨1,by omega,by omega,?_⟩;rw[up1,hn];conv=>whnf
      (refine vU.wE h0 rfl rfl rfl (by(repeat'(first|(refine Yf rfl ?_ ?_)|exact Yi (Zo _)|exact WO (Zo _)|exact Yi (VG _)|exact WO (VG _)|exact ZkP (ZkO _ _)|rfl))) ?_ ?_<;>(repeat'(first|(with_reducible rfl)|exact trivial|(exact YA rfl (by first|omega|(simp(disch:=omega) only[wI,Z9,Zp]<;>omega)|(simp;done)|(simp<;>omega)))|(exact z8 (SV.int _) (by first|omega|(simp(disch:=omega) only[wI,Z9,Zp]<;>omega)|(simp;done)|(simp<;>omega)))|(exact Kj (by first|omega|(simp(disch:=omega) only[wI,Z9,Zp]<;>omega)|(simp;done)|(simp<;>omega)))|(exact Kk (by first|omega|(simp(disch:=omega) only[wI,Z9,Zp]<;>omega)|(simp;done)|(simp<;>omega)))|(exact Zv _ (h:= .rows _ _) (Zo _))|(exact Zv _ (h:= .rows _ _) (VG _))|(exact z8 (Hp.rows _) (by rfl))|((conv=>whnf);refine⟨?_,?_⟩)|rfl)))
    ·
     rw[up1];conv=>whnf
     repeat'(first|refine Z4 13 Zlm ?_|refine wh.mk (fun _ _=>?_)|refine AD ?_|refine qz.mk ?_ ?_|refine u6.mk ⟨by decide,by decide,rfl⟩ ?_|refine u6.mk ⟨ZdP _,(ZkU ps ps.length).ok⟩ ?_|refine AU ?_|refine IW ?_ ?_<;>intro h<;>try omega)<;>conv=>whnf
     refine eu.mk (fun idx v hf=>?_) (fun hf=>?_)
     .obtain⟨i0,hi0,rfl,hto⟩:=Zlb hf;conv=>whnf
      repeat'(first|refine GET.at (row:=Yu (ps[i0]'(by omega))) (Zk7 (by omega) (by omega)) ?_|refine u6.mk ⟨by decide,by decide,rfl⟩ ?_|refine AU ?_|refine IW ?_ ?_<;>intro h<;>try omega)<;>conv=>whnf
      .have hn:=Zl5 (t:=q.p) (by omega) hto;refine⟨2,by omega,by omega,?_⟩;rw[up2,hn];conv=>whnf
       (refine vU.wE h0 rfl rfl rfl (by(repeat'(first|(refine Yf rfl ?_ ?_)|exact Yi (Zo _)|exact WO (Zo _)|exact Yi (VG _)|exact WO (VG _)|exact ZkP (ZkO _ _)|rfl))) ?_ ?_<;>(repeat'(first|(with_reducible rfl)|exact trivial|(exact YA rfl (by first|omega|(simp(disch:=omega) only[wI,Z9,Zp]<;>omega)|(simp;done)|(simp<;>omega)))|(exact z8 (SV.int _) (by first|omega|(simp(disch:=omega) only[wI,Z9,Zp]<;>omega)|(simp;done)|(simp<;>omega)))|(exact Kj (by first|omega|(simp(disch:=omega) only[wI,Z9,Zp]<;>omega)|(simp;done)|(simp<;>omega)))|(exact Kk (by first|omega|(simp(disch:=omega) only[wI,Z9,Zp]<;>omega)|(simp;done)|(simp<;>omega)))|(exact Zv _ (h:= .rows _ _) (Zo _))|(exact Zv _ (h:= .rows _ _) (VG _))|(exact z8 (Hp.rows _) (by rfl))|((conv=>whnf);refine⟨?_,?_⟩)|rfl)))
      .have hn:=Zl0 (ps:=ps) (t:=q.p) (by omega);refine⟨2,by omega,by omega,?_⟩;rw[up2,hn];conv=>whnf
       (refine vU.wE h0 rfl rfl rfl (by(repeat'(first|(refine Yf rfl ?_ ?_)|exact Yi (Zo _)|exact WO (Zo _)|exact Yi (VG _)|exact WO (VG _)|exact ZkP (ZkO _ _)|rfl))) ?_ ?_<;>(repeat'(first|(with_reducible rfl)|exact trivial|(exact YA rfl (by first|omega|(simp(disch:=omega) only[wI,Z9,Zp]<;>omega)|(simp;done)|(simp<;>omega)))|(exact z8 (SV.int _) (by first|omega|(simp(disch:=omega) only[wI,Z9,Zp]<;>omega)|(simp;done)|(simp<;>omega)))|(exact Kj (by first|omega|(simp(disch:=omega) only[wI,Z9,Zp]<;>omega)|(simp;done)|(simp<;>omega)))|(exact Kk (by first|omega|(simp(disch:=omega) only[wI,Z9,Zp]<;>omega)|(simp;done)|(simp<;>omega)))|(exact Zv _ (h:= .rows _ _) (Zo _))|(exact Zv _ (h:= .rows _ _) (VG _))|(exact z8 (Hp.rows _) (by rfl))|((conv=>whnf);refine⟨?_,?_⟩)|rfl)))
     .have hto:=Zln hf;have hn:=Zl1 (t:=q.p) hto;conv=>whnf
      repeat'(first|refine u6.mk ⟨by decide,by decide,rfl⟩ ?_|refine AU ?_|refine IW ?_ ?_<;>intro h<;>try omega)<;>conv=>whnf
      refine⟨2,by omega,by omega,?_⟩;rw[up2,hn];conv=>whnf
      (refine vU.wE h0 rfl rfl rfl (by(repeat'(first|(refine Yf rfl ?_ ?_)|exact Yi (Zo _)|exact WO (Zo _)|exact Yi (VG _)|exact WO (VG _)|exact ZkP (ZkO _ _)|rfl))) ?_ ?_<;>(repeat'(first|(with_reducible rfl)|exact trivial|(exact YA rfl (by first|omega|(simp(disch:=omega) only[wI,Z9,Zp]<;>omega)|(simp;done)|(simp<;>omega)))|(exact z8 (SV.int _) (by first|omega|(simp(disch:=omega) only[wI,Z9,Zp]<;>omega)|(simp;done)|(simp<;>omega)))|(exact Kj (by first|omega|(simp(disch:=omega) only[wI,Z9,Zp]<;>omega)|(simp;done)|(simp<;>omega)))|(exact Kk (by first|omega|(simp(disch:=omega) only[wI,Z9,Zp]<;>omega)|(simp;done)|(simp<;>omega)))|(exact Zv _ (h:= .rows _ _) (Zo _))|(exact Zv _ (h:= .rows _ _) (VG _))|(exact z8 (Hp.rows _) (by rfl))|((conv=>whnf);refine⟨?_,?_⟩)|rfl)))
    ·
     rw[up2];conv=>whnf
     repeat'(first|refine Z4 13 Zlm ?_|refine wh.mk (fun _ _=>?_)|refine AD ?_|refine qz.mk ?_ ?_|refine u6.mk ⟨by decide,by decide,rfl⟩ ?_|refine u6.mk ⟨ZdP _,(ZkU ps ps.length).ok⟩ ?_|refine AU ?_|refine IW ?_ ?_<;>intro h<;>try omega)<;>conv=>whnf
     refine eu.mk (fun idx v hf=>?_) (fun hf=>?_)
     .obtain⟨i0,hi0,rfl,hto⟩:=Zlb hf;conv=>whnf
      repeat'(first|refine GET.at (row:=Yu (ps[i0]'(by omega))) (Zk7 (by omega) (by omega)) ?_|refine u6.mk ⟨by decide,by decide,rfl⟩ ?_|refine AU ?_|refine IW ?_ ?_<;>intro h<;>try omega)<;>conv=>whnf
      .have hn:=Zl5 (t:=q.o) (by omega) hto;refine⟨3,by omega,by omega,?_⟩;rw[up3,hn];conv=>whnf
       (refine vU.wE h0 rfl rfl rfl (by(repeat'(first|(refine Yf rfl ?_ ?_)|exact Yi (Zo _)|exact WO (Zo _)|exact Yi (VG _)|exact WO (VG _)|exact ZkP (ZkO _ _)|rfl))) ?_ ?_<;>(repeat'(first|(with_reducible rfl)|exact trivial|(exact YA rfl (by first|omega|(simp(disch:=omega) only[wI,Z9,Zp]<;>omega)|(simp;done)|(simp<;>omega)))|(exact z8 (SV.int _) (by first|omega|(simp(disch:=omega) only[wI,Z9,Zp]<;>omega)|(simp;done)|(simp<;>omega)))|(exact Kj (by first|omega|(simp(disch:=omega) only[wI,Z9,Zp]<;>omega)|(simp;done)|(simp<;>omega)))|(exact Kk (by first|omega|(simp(disch:=omega) only[wI,Z9,Zp]<;>omega)|(simp;done)|(simp<;>omega)))|(exact Zv _ (h:= .rows _ _) (Zo _))|(exact Zv _ (h:= .rows _ _) (VG _))|(exact z8 (Hp.rows _) (by rfl))|((conv=>whnf);refine⟨?_,?_⟩)|rfl)))
      .have hn:=Zl0 (ps:=ps) (t:=q.o) (by omega);refine⟨3,by omega,by omega,?_⟩;rw[up3,hn];conv=>whnf
       (refine vU.wE h0 rfl rfl rfl (by(repeat'(first|(refine Yf rfl ?_ ?_)|exact Yi (Zo _)|exact WO (Zo _)|exact Yi (VG _)|exact WO (VG _)|exact ZkP (ZkO _ _)|rfl))) ?_ ?_<;>(repeat'(first|(with_reducible rfl)|exact trivial|(exact YA rfl (by first|omega|(simp(disch:=omega) only[wI,Z9,Zp]<;>omega)|(simp;done)|(simp<;>omega)))|(exact z8 (SV.int _) (by first|omega|(simp(disch:=omega) only[wI,Z9,Zp]<;>omega)|(simp;done)|(simp<;>omega)))|(exact Kj (by first|omega|(simp(disch:=omega) only[wI,Z9,Zp]<;>omega)|(simp;done)|(simp<;>omega)))|(exact Kk (by first|omega|(simp(disch:=omega) only[wI,Z9,Zp]<;>omega)|(simp;done)|(simp<;>omega)))|(exact Zv _ (h:= .rows _ _) (Zo _))|(exact Zv _ (h:= .rows _ _) (VG _))|(exact z8 (Hp.rows _) (by rfl))|((conv=>whnf);refine⟨?_,?_⟩)|rfl)))
     .have hto:=Zln hf;have hn:=Zl1 (t:=q.o) hto;conv=>whnf
      repeat'(first|refine u6.mk ⟨by decide,by decide,rfl⟩ ?_|refine AU ?_|refine IW ?_ ?_<;>intro h<;>try omega)<;>conv=>whnf
      refine⟨3,by omega,by omega,?_⟩;rw[up3,hn];conv=>whnf
      (refine vU.wE h0 rfl rfl rfl (by(repeat'(first|(refine Yf rfl ?_ ?_)|exact Yi (Zo _)|exact WO (Zo _)|exact Yi (VG _)|exact WO (VG _)|exact ZkP (ZkO _ _)|rfl))) ?_ ?_<;>(repeat'(first|(with_reducible rfl)|exact trivial|(exact YA rfl (by first|omega|(simp(disch:=omega) only[wI,Z9,Zp]<;>omega)|(simp;done)|(simp<;>omega)))|(exact z8 (SV.int _) (by first|omega|(simp(disch:=omega) only[wI,Z9,Zp]<;>omega)|(simp;done)|(simp<;>omega)))|(exact Kj (by first|omega|(simp(disch:=omega) only[wI,Z9,Zp]<;>omega)|(simp;done)|(simp<;>omega)))|(exact Kk (by first|omega|(simp(disch:=omega) only[wI,Z9,Zp]<;>omega)|(simp;done)|(simp<;>omega)))|(exact Zv _ (h:= .rows _ _) (Zo _))|(exact Zv _ (h:= .rows _ _) (VG _))|(exact z8 (Hp.rows _) (by rfl))|((conv=>whnf);refine⟨?_,?_⟩)|rfl)))
    ·
     rw[up3];conv=>whnf
     repeat'(first|refine Z4 13 Zlm ?_|refine wh.mk (fun _ _=>?_)|refine AD ?_|refine qz.mk ?_ ?_|refine u6.mk ⟨by decide,by decide,rfl⟩ ?_|refine u6.mk ⟨ZdP _,(ZkU ps ps.length).ok⟩ ?_|refine AU ?_|refine IW ?_ ?_<;>intro h<;>try omega)<;>conv=>whnf
     refine eu.mk (fun idx v hf=>?_) (fun hf=>?_)
     .obtain⟨i0,hi0,rfl,hto⟩:=Zlb hf;conv=>whnf
      repeat'(first|refine GET.at (row:=Yu (ps[i0]'(by omega))) (Zk7 (by omega) (by omega)) ?_|refine u6.mk ⟨by decide,by decide,rfl⟩ ?_|refine AU ?_|refine IW ?_ ?_<;>intro h<;>try omega)<;>conv=>whnf
      .have hn:=Zl5 (t:=q.g) (by omega) hto;refine⟨4,by omega,by omega,?_⟩;rw[up4,hn];conv=>whnf
       (refine vU.wE h0 rfl rfl rfl (by(repeat'(first|(refine Yf rfl ?_ ?_)|exact Yi (Zo _)|exact WO (Zo _)|exact Yi (VG _)|exact WO (VG _)|exact ZkP (ZkO _ _)|rfl))) ?_ ?_<;>(repeat'(first|(with_reducible rfl)|exact trivial|(exact YA rfl (by first|omega|(simp(disch:=omega) only[wI,Z9,Zp]<;>omega)|(simp;done)|(simp<;>omega)))|(exact z8 (SV.int _) (by first|omega|(simp(disch:=omega) only[wI,Z9,Zp]<;>omega)|(simp;done)|(simp<;>omega)))|(exact Kj (by first|omega|(simp(disch:=omega) only[wI,Z9,Zp]<;>omega)|(simp;done)|(simp<;>omega)))|(exact Kk (by first|omega|(simp(disch:=omega) only[wI,Z9,Zp]<;>omega)|(simp;done)|(simp<;>omega)))|(exact Zv _ (h:= .rows _ _) (Zo _))|(exact Zv _ (h:= .rows _ _) (VG _))|(exact z8 (Hp.rows _) (by rfl))|((conv=>whnf);refine⟨?_,?_⟩)|rfl)))
      .have hn:=Zl0 (ps:=ps) (t:=q.g) (by omega);refine⟨4,by omega,by omega,?_⟩;rw[up4,hn];conv=>whnf
       (refine vU.wE h0 rfl rfl rfl (by(repeat'(first|(refine Yf rfl ?_ ?_)|exact Yi (Zo _)|exact WO (Zo _)|exact Yi (VG _)|exact WO (VG _)|exact ZkP (ZkO _ _)|rfl))) ?_ ?_<;>(repeat'(first|(with_reducible rfl)|exact trivial|(exact YA rfl (by first|omega|(simp(disch:=omega) only[wI,Z9,Zp]<;>omega)|(simp;done)|(simp<;>omega)))|(exact z8 (SV.int _) (by first|omega|(simp(disch:=omega) only[wI,Z9,Zp]<;>omega)|(simp;done)|(simp<;>omega)))|(exact Kj (by first|omega|(simp(disch:=omega) only[wI,Z9,Zp]<;>omega)|(simp;done)|(simp<;>omega)))|(exact Kk (by first|omega|(simp(disch:=omega) only[wI,Z9,Zp]<;>omega)|(simp;done)|(simp<;>omega)))|(exact Zv _ (h:= .rows _ _) (Zo _))|(exact Zv _ (h:= .rows _ _) (VG _))|(exact z8 (Hp.rows _) (by rfl))|((conv=>whnf);refine⟨?_,?_⟩)|rfl)))
     .have hto:=Zln hf;have hn:=Zl1 (t:=q.g) hto;conv=>whnf
      repeat'(first|refine u6.mk ⟨by decide,by decide,rfl⟩ ?_|refine AU ?_|refine IW ?_ ?_<;>intro h<;>try omega)<;>conv=>whnf
      refine⟨4,by omega,by omega,?_⟩;rw[up4,hn];conv=>whnf
      (refine vU.wE h0 rfl rfl rfl (by(repeat'(first|(refine Yf rfl ?_ ?_)|exact Yi (Zo _)|exact WO (Zo _)|exact Yi (VG _)|exact WO (VG _)|exact ZkP (ZkO _ _)|rfl))) ?_ ?_<;>(repeat'(first|(with_reducible rfl)|exact trivial|(exact YA rfl (by first|omega|(simp(disch:=omega) only[wI,Z9,Zp]<;>omega)|(simp;done)|(simp<;>omega)))|(exact z8 (SV.int _) (by first|omega|(simp(disch:=omega) only[wI,Z9,Zp]<;>omega)|(simp;done)|(simp<;>omega)))|(exact Kj (by first|omega|(simp(disch:=omega) only[wI,Z9,Zp]<;>omega)|(simp;done)|(simp<;>omega)))|(exact Kk (by first|omega|(simp(disch:=omega) only[wI,Z9,Zp]<;>omega)|(simp;done)|(simp<;>omega)))|(exact Zv _ (h:= .rows _ _) (Zo _))|(exact Zv _ (h:= .rows _ _) (VG _))|(exact z8 (Hp.rows _) (by rfl))|((conv=>whnf);refine⟨?_,?_⟩)|rfl)))
   .obtain rfl:j=4:=by omega
    rw[up4];conv=>whnf
    repeat'(first|refine u6.mk (Zn 224 rfl rfl (by simp) (by simp) (by omega)) ?_|refine AU ?_|refine IW ?_ ?_<;>intro h<;>try omega)<;>conv=>whnf
    refine⟨i+1,by omega,by omega,?_⟩;rw[hs];conv=>whnf
    (refine vU.uw h0 [2,3,4,5,6,10] rfl rfl rfl (by(repeat'(first|(refine Yf rfl ?_ ?_)|exact Yi (Zo _)|exact WO (Zo _)|exact ZkP (ZkO _ _)|rfl))) ?_ ?_<;>(repeat'(first|(exact(Zv _ (h:= .mp _) (ZkO _ _)).symm)|(with_reducible rfl)|exact trivial|(exact YA rfl (by first|omega|(simp(disch:=omega) only[wI,Z9,Zp]<;>omega)|(simp;done)|(simp<;>omega)))|(exact z8 (SV.int _) (by first|omega|(simp(disch:=omega) only[wI,Z9,Zp]<;>omega)|(simp;done)|(simp<;>omega)))|(exact Kj (by first|omega|(simp(disch:=omega) only[wI,Z9,Zp]<;>omega)|(simp;done)|(simp<;>omega)))|(exact Kk (by first|omega|(simp(disch:=omega) only[wI,Z9,Zp]<;>omega)|(simp;done)|(simp<;>omega)))|(exact(Zv _ (h:= .rows _ _) (Zo _)).symm)|(exact(Zv _ (h:= .rows _ _) (Zo _)).trans (Zv _ (h:= .rows _ _) (Zo _)).symm)|(exact Zk (Zo _) (by(simp[zg,YG,Z3,oE])))|((conv=>whnf);refine⟨?_,?_⟩)|(simp only[ur,uS];done)|rfl)))
  .have hie:i=l.length:=by omega
   subst hie;rw[y8]at mR⊢;generalize l.map (oE ps)=out at*;have hT:=ZlO out [] none (by unfold JS;omega);rw[zP]at hT;repeat'(first|refine AU ?_|refine IW ?_ ?_<;>intro h<;>try omega)<;>conv=>whnf
   refine CALL.aA [7] (hT) ?_;rintro r O nx ⟨j,hj,rfl,rfl,rfl⟩;conv=>whnf
   refine u0.aA h0 [8] (.sl (.loc 2) 0 16 (wj ZP out).length (some (wj ZP out).length)) [(2, .rows 16 ((wj ZP out++List.replicate j Kl).map Z3))] ?_;exact⟨j,by omega,rfl,rfl,rfl⟩
def JA(a b:List Qd)(ps:List Pr):Int:=if ZlX a b≠0 then ZlX a b else if z15 (ZQ a) (ZQ b) ps=true/\wj ZP (a.map (oE ps))=b then 0 else 140
structure Maps(a b:List Qd)(zs:List Nat):Prop where
 hv:ZlX a b=0
 len:zs.length=(ZQ a).length
 lb:(ZQ b).length=(ZQ a).length
 nd:zs.Nodup
 lt:∀z∈zs,z< (ZQ a).length
 img:b.Perm (a.map (z16 (z0s (ZQ a) (ZQ b) zs)))
theorem ZkQ(l:List Qd):(ZQ l).Nodup:=XB qA (X6 qA _)
section
variable {a b:List Qd}{zs:List Nat}(h:Maps a b zs)
include h
theorem Maps.perm:zs.Perm (List.range (ZQ a).length):=
 (ZlY h.nd (by rw[yE,h.len]) fun z hz=>yj.2 (h.lt z hz)).symm
end
theorem ZmK{l:List Qd}(h:z01 l):(YL l).2=0:=by
 have h1:∀(n i:Nat),l.length-i<=n->jA l i=none:=by
  intro n
  induction n with
  |zero=>intro i hi;exact CD (by omega)
  |succ n ih=>
   intro i hi;by_cases hl:i<l.length
   .rw[FZ hl,z7 (by rw[h.ck _ (zk hl)];simp)];exact ih _ (by omega)
   exact CD (by omega)
 have h2:∀(n i:Nat),l.length-i<=n->1<=i->oc l i=none:=by
  intro n
  induction n with
  |zero=>intro i hi _;exact Lb (by omega)
  |succ n ih=>
   intro i hi h1;by_cases hl:i<l.length
   .have:=ZlE h.z52 (i:=i-1) (j:=i) (by omega) hl;rw[CF hl,z7 (by omega)];exact ih _ (by omega) (by omega)
   exact Lb (by omega)
 unfold YL;rw[z7 (by have:=h.few;omega),h1 _ 0 (zo _),h2 _ 1 (zo _) (zo _)]
theorem Zly{K:Type}[DecidableEq K]:∀{x l:List K},x.Nodup->l.Nodup->(∀z,z∈x<->z∈l)->x.Perm l
 | [],l,_,_,h=>by
   have:l=[]:=List.eq_nil_iff_forall_not_mem.2 fun z hz=>by simpa using(h z).2 hz
   rw[this]
 |z::x,l,hn,hl,h=>by
  have hn':=List.nodup_cons.1 hn;have hz:z∈l:=(h z).1 (zJ ..);refine .trans (.cons z (Zly hn'.2 (hl.erase z) fun w=>?_)) (List.perm_cons_erase hz).symm;rw[hl.mem_erase_iff,<-h w,zL];constructor
  exact fun hw=>⟨fun e=>hn'.1 (e▸hw), .inr hw⟩
  .rintro⟨h1,h2⟩;exact h2.resolve_left h1
theorem Zmp{K J:Type}{f:K->J}{l:List K}(hl:l.Nodup)(hf:∀x∈l,∀y∈l,f x=f y->x=y):(l.map f).Nodup:=by
 unfold List.Nodup at*;rw[List.pairwise_map];exact hl.imp_of_mem fun hx hy hne e=>hne (hf _ hx _ hy e)
theorem ZkY{ps:List Pr}{s u:LB}(h:dM ps s=some u):(s,u)∈ps:=by
 unfold dM at h;obtain⟨p,hp,rfl⟩:=zC.1 h;have h1:=List.find?_some hp;have h2:=List.mem_of_find?_eq_some hp;have h1:p.1=s:=by simpa using h1
 subst h1;exact h2
theorem Zl2{ps:List Pr}{s u:LB}(hn:(ps.map Prod.fst).Nodup)(h:(s,u)∈ps):dM ps s=some u:=by
 induction ps with
 |nil=>cases h
 |cons p ps ih=>
  rw[zG]at hn;have hn':=List.nodup_cons.1 hn;rw[ZlZ];rcases zL.1 h with e|e
  subst e;rw[zf rfl]
  .rw[z7 (fun e2=>hn'.1 (by rw[e2];exact yc.2 ⟨_,e,rfl⟩))];exact ih hn'.2 e
structure Bij(a b:List Qd)(ps:List Pr):Prop where
 va:z01 a
 vb:z01 b
 fs:(ps.map Prod.fst).Perm (ZQ a)
 OF:(ps.map Prod.snd).Perm (ZQ b)
 img:b.Perm (a.map (oE ps))
def Zlh(ps:List Pr):List Pr:=ps.map fun p=>(p.2,p.1)
theorem ZlF(ps:List Pr):(Zlh ps).map Prod.fst=ps.map Prod.snd:=by unfold Zlh;rw[xo];rfl
theorem Zmk(ps:List Pr):(Zlh ps).map Prod.snd=ps.map Prod.fst:=by unfold Zlh;rw[xo];rfl
theorem ZkZ{ps:List Pr}{t:Tm}(h:¬t.k=2):nX ps t=t:=z7 h
theorem ZkV{ps:List Pr}{t:Tm}{u:LB}(h:t.k=2)(hu:dM ps t.t=some u):nX ps t={t with t:=u}:=by unfold nX;rw[zf h,hu]
theorem Zle(ps:List Pr)(q:Qd):nY (oE ps q)=(nY q).map (nX ps):=rfl
theorem Zlc{f g:Tm->Tm}{q:Qd}(h:∀t∈nY q,f t=g t):(⟨f q.s,f q.p,f q.o,f q.g⟩:Qd)=⟨g q.s,g q.p,g q.o,g q.g⟩:=by
 rw[h q.s (by simp[nY]),h q.p (by simp[nY]),h q.o (by simp[nY]),h q.g (by simp[nY])]
section
variable {a b c:List Qd}{ps:List Pr}
theorem Zl6(h:(ps.map Prod.fst).Perm (ZQ a)){s:LB}(hs:s∈ZQ a):∃u,(s,u)∈ps/\dM ps s=some u:=by
 obtain⟨p,hp,rfl⟩:=yc.1 (h.mem_iff.2 hs);exact⟨p.2,hp,Zl2 (h.symm.nodup (ZkQ a)) hp⟩
theorem Zlf(h:(ps.map Prod.fst).Perm (ZQ a))(hn:(ps.map Prod.snd).Nodup){q:Qd}(hq:q∈a):oE (Zlh ps) (oE ps q)=q:=by
 have:∀t∈nY q,nX (Zlh ps) (nX ps t)=t:=fun t ht=>by
  by_cases hk:t.k=2
  .obtain⟨u,hu,e⟩:=Zl6 h (ZkX hq ht hk);have e2:dM (Zlh ps) u=some t.t:=Zl2 (by rw[ZlF];exact hn) (yc.2 ⟨_,hu,rfl⟩);rw[ZkV hk e,ZkV (by exact hk) e2]
  rw[ZkZ hk,ZkZ hk]
 exact Zlc (f:=fun t=>nX (Zlh ps) (nX ps t)) (g:=id) this
theorem Zmt(hr:a.Nodup)(h:(ps.map Prod.fst).Perm (ZQ a))(hn:(ps.map Prod.snd).Nodup):(a.map (oE ps)).Nodup:=
 Zmp hr fun x hx y hy e=>by rw[<-Zlf h hn hx,e,Zlf h hn hy]
theorem Bij.turn(h:Bij a b ps):Bij b a (Zlh ps):=by
 refine⟨h.vb,h.va,by rw[ZlF];exact h.OF,by rw[Zmk];exact h.fs,?_⟩;refine .trans (.of_eq ?_) (h.img.map (oE (Zlh ps))).symm;rw[xo];refine((yy fun q hq=>?_).trans (List.map_id _)).symm;exact Zlf h.fs (h.OF.symm.nodup (ZkQ b)) hq
def Zlz(p q:List Pr):List Pr:=p.map fun x=>(x.1,(dM q x.2).getD [])
theorem Bij.comp{qs:List Pr}(h:Bij a b ps)(h2:Bij b c qs):Bij a c (Zlz ps qs):=by
 have nd2:(qs.map Prod.fst).Nodup:=h2.fs.symm.nodup (ZkQ b);have e1:(Zlz ps qs).map Prod.fst=ps.map Prod.fst:=by unfold Zlz;rw[xo];rfl
 have e2:(Zlz ps qs).map Prod.snd=(ps.map Prod.snd).map fun s=>(dM qs s).getD []:=by unfold Zlz;rw[xo,xo];rfl
 have nd1:((Zlz ps qs).map Prod.fst).Nodup:=by rw[e1];exact h.fs.symm.nodup (ZkQ a)
 refine⟨h.va,h2.vb,by rw[e1];exact h.fs,?_,?_⟩
 .rw[e2];refine((h.OF.trans h2.fs.symm).map _).trans (.trans (.of_eq ?_) h2.OF);rw[xo];refine yy fun x hx=>?_;show(dM qs x.1).getD []=x.2
  rw[Zl2 nd2 (u:=x.2) hx];rfl
 .refine h2.img.trans ((h.img.map _).trans (.of_eq ?_));rw[xo];refine yy fun q hq=>?_
  have:∀t∈nY q,nX qs (nX ps t)=nX (Zlz ps qs) t:=fun t ht=>by
   by_cases hk:t.k=2
   .obtain⟨u,hu,e⟩:=Zl6 h.fs (ZkX hq ht hk);obtain⟨w,hw,e'⟩:=Zl6 h2.fs (h.OF.mem_iff.1 (yc.2 ⟨_,hu,rfl⟩));rw[ZkV hk e,ZkV (by exact hk) e',ZkV hk (Zl2 nd1 (yc.2 ⟨_,hu,rfl⟩))];show Tm.mk _ w _ _=Tm.mk _ ((dM qs u).getD []) _ _
    rw[e'];rfl
   rw[ZkZ hk,ZkZ hk,ZkZ hk]
  exact Zlc (f:=fun t=>nX qs (nX ps t)) this
end
def ZlA(u:LB):Prop:=u.length<=65536/\iW u=0
theorem Zmq{t:Tm}(hk:t.k=2)(h:Go.Our.JA t=0):(t.y=[]/\t.l=[])/\ZlA t.t:=by
 unfold Go.Our.JA at h;rw[zf (.inr hk)]at h;split at h
 cases h
 .rename_i h1;rw[z7 (by rw[hk];decide)]at h;split at h
  cases h
  .rename_i h2;refine⟨⟨Decidable.byContradiction fun e=>h1 (.inl e),Decidable.byContradiction fun e=>h1 (.inr e)⟩,by omega,h⟩
theorem ZmC{t:Tm}(hk:t.k=2)(hy:t.y=[])(hl:t.l=[])(h:ZlA t.t):Go.Our.JA t=0:=by
 unfold Go.Our.JA;rw[zf (.inr hk),z7 (by rw[hy,hl];simp),z7 (by rw[hk];decide),z7 (by have:=h.1;omega)];exact h.2
theorem ZlR{q:Qd}(h:Vj q=0){t:Tm}(ht:t∈nY q)(hk:t.k=2):Go.Our.JA t=0:=by
 unfold Vj at h;split at h
 cases h
 split at h
 exact absurd h ‹_›;split at h
 cases h
 split at h
 exact absurd h ‹_›;split at h
 exact absurd h ‹_›;simp only[nY,zL,xq,or_false]at ht;rcases ht with rfl|rfl|rfl|rfl
 exact Decidable.byContradiction ‹_›;exact Decidable.byContradiction ‹_›;exact Decidable.byContradiction ‹_›
 .split at h
  rename_i e;rw[e]at hk;cases hk
  .split at h
   cases h
   exact h
theorem HX{l:List Qd}{u:LB}(hu:u∈ZQ l):∃q∈l,∃t∈nY q,t.k=2/\t.t=u:=by
 obtain⟨q,hq,h⟩:=xV.1 ((JI _ _).1 hu);unfold Zw at h
 have key:∀{t:Tm},u∈Y0 t->t.k=2/\t.t=u:=fun{t} h=>by
  unfold Y0 at h;split at h
  exact⟨‹_›,(zI.1 h).symm⟩;cases h
 simp only[zQ]at h;rcases h with((h|h)|h)|h
 exact⟨q,hq,q.s,by simp[nY],key h⟩;exact⟨q,hq,q.p,by simp[nY],key h⟩;exact⟨q,hq,q.o,by simp[nY],key h⟩;exact⟨q,hq,q.g,by simp[nY],key h⟩
theorem ZmD{l:List Qd}(d:z01 l){u:LB}(hu:u∈ZQ l):ZlA u:=by
 obtain⟨q,hq,t,ht,hk,rfl⟩:=HX hu;exact(Zmq hk (ZlR (d.ck q hq) ht hk)).2
theorem Zl3{ps:List Pr}{t:Tm}(h:Go.Our.JA t=0)(hu:t.k=2->∃u,dM ps t.t=some u/\ZlA u):Go.Our.JA (nX ps t)=0:=by
 by_cases hk:t.k=2
 .obtain⟨u,e,hl⟩:=hu hk;rw[ZkV hk e];have:=(Zmq hk h).1;exact ZmC hk this.1 this.2 hl
 rw[ZkZ hk];exact h
theorem Zlt(ps:List Pr)(t:Tm):(nX ps t).k=t.k:=by
 unfold nX;split
 split<;>rfl
 rfl
theorem ZlS{ps:List Pr}{q:Qd}(h:Vj q=0)(hu:∀t∈nY q,t.k=2->∃u,dM ps t.t=some u/\ZlA u):Vj (oE ps q)=0:=by
 have hg:(nX ps q.g=ZC)<->q.g=ZC:=by
  constructor
  .intro e;by_cases hk:q.g.k=2
   .have:=Zlt ps q.g;rw[e,hk]at this;cases this
   rwa [ZkZ hk]at e
  .intro e;rw[e];exact ZkZ (by decide)
 unfold Vj at h⊢
 show(if ¬((nX ps q.s).k=1\/(nX ps q.s).k=2)then 70 else if Go.Our.JA (nX ps q.s)≠0 then Go.Our.JA (nX ps q.s)else
 if ¬(nX ps q.p).k=1 then 70 else if Go.Our.JA (nX ps q.p)≠0 then Go.Our.JA (nX ps q.p)else
 if Go.Our.JA (nX ps q.o)≠0 then Go.Our.JA (nX ps q.o)else
 if nX ps q.g=ZC then 0 else if ¬((nX ps q.g).k=1\/(nX ps q.g).k=2)then 70 else Go.Our.JA (nX ps q.g))=0
 simp only[Zlt,hg];split at h
 cases h
 rename_i h1;rw[z7 h1];split at h
 exact absurd h ‹_›;rename_i h2;rw[z7 (fun e=>e (Zl3 (Decidable.byContradiction h2) (hu _ (by simp[nY]))))];split at h
 cases h
 rename_i h3;rw[z7 h3];split at h
 exact absurd h ‹_›;rename_i h4;rw[z7 (fun e=>e (Zl3 (Decidable.byContradiction h4) (hu _ (by simp[nY]))))];split at h
 exact absurd h ‹_›;rename_i h5;rw[z7 (fun e=>e (Zl3 (Decidable.byContradiction h5) (hu _ (by simp[nY]))))];split at h
 rw[zf ‹_›];rename_i h6;rw[z7 h6];split at h
 cases h
 rename_i h7;rw[z7 h7];exact Zl3 h (hu _ (by simp[nY]))
theorem Zm1{l:List Qd}{ps:List Pr}(d:z01 l)(fs:(ps.map Prod.fst).Perm (ZQ l))(nd:(ps.map Prod.snd).Nodup)(ok:∀u∈ps.map Prod.snd,ZlA u):Bij l (wj ZP (l.map (oE ps))) ps:=by
 have hu:∀q∈l,∀t∈nY q,t.k=2->∃u,(t.t,u)∈ps/\dM ps t.t=some u/\ZlA u:=fun q hq t ht hk=>by
  obtain⟨u,h1,h2⟩:=Zl6 fs (ZkX hq ht hk);exact⟨u,h1,h2,ok u (yc.2 ⟨_,h1,rfl⟩)⟩
 have hr:=X6 kH (l.map (oE ps));have hl:=Km (c:=ZP) (l.map (oE ps));rw[zy]at hl;refine⟨d,⟨hr,zO hl d.few,fun q hq=>?_⟩,fs,Zly nd (ZkQ _) fun u=>?_,Zly (XB kH hr) (Zmt (XB kH d.z52) fs nd) fun z=>JI _ _⟩
 .obtain⟨q0,hq0,rfl⟩:=yc.1 ((JI _ _).1 hq);refine ZlS (d.ck q0 hq0) fun t ht hk=>?_;obtain⟨u,_,h2,h3⟩:=hu q0 hq0 t ht hk;exact⟨u,h2,h3⟩
 .constructor
  .intro hm;obtain⟨p,hp,rfl⟩:=yc.1 hm;have h1:p.1∈ZQ l:=fs.mem_iff.1 (yc.2 ⟨p,hp,rfl⟩);obtain⟨q,hq,t,ht,hk,he⟩:=HX h1;have e:dM ps t.t=some p.2:=by rw[he];exact Zl2 (fs.symm.nodup (ZkQ l)) hp
   have:=ZkX (l:=wj ZP (l.map (oE ps))) ((JI _ _).2 (yc.2 ⟨q,hq,rfl⟩)) (t:=nX ps t) (by rw[Zle];exact vB ht) (by rw[Zlt];exact hk);rw[ZkV hk e]at this;exact this
  .intro hm;obtain⟨q,hq,t,ht,hk,rfl⟩:=HX hm;obtain⟨q0,hq0,rfl⟩:=yc.1 ((JI _ _).1 hq);rw[Zle]at ht;obtain⟨t0,ht0,rfl⟩:=yc.1 ht;rw[Zlt]at hk;obtain⟨u,h1,h2,_⟩:=hu q0 hq0 t0 ht0 hk;rw[ZkV hk h2];exact yc.2 ⟨_,h1,rfl⟩
end Go.Proofs.YtlcbipfmodcedaaGreatDoor
namespace Go.Proofs.YtlcbipfmodcedaaGreatDoor
open Go.Sx Go.Our Go.Lib
noncomputable def z00 (l:List Qd)(b:Int):Int:=if kJ l≠0 then kJ l else if jU b< (JM (ZQ l) l (jU b)).1 then 4 else 0
noncomputable def z07 (l:List Qd)(b:Int):List Qd:=match JV (ZA (ZQ l) l) (JM (ZQ l) l (jU b)).2 with|some x=>x.1|none=>[]
theorem z0i{l:List Qd}{b:Int}{r:SV}{O:vX}{nx:Nat}(h:Gv l b r O nx):
 (z00 l b≠0/\r= .uz [.val (.slice none 0 0), .val (.slice none 0 0), .int .i64 (z00 l b)]/\O=[]/\nx=1)\/
 (z00 l b=0/\∃c,wH (ZQ l) c/\JV (ZA (ZQ l) l) (JM (ZQ l) l (jU b)).2=some (ZA (ZQ l) l c,c)/\z07 l b=ZA (ZQ l) l c/\
   r= .uz [.sl (.loc 1) 0 16 l.length none, .sl (.loc 2) 0 2 (ZQ l).length none, .int .i64 0]/\O=[(1, .rows 16 ((ZA (ZQ l) l c).map Z3)),(2, .rows 2 ((wC (ZQ l) c).map Yu))]/\nx=3):=by
 rcases h with⟨h1,rfl,rfl,rfl⟩|⟨h1,h2,rfl,rfl,rfl⟩|⟨h1,h2,c,hc,hb,rfl,rfl,rfl⟩
 .have e:z00 l b=kJ l:=by unfold z00;rw[zf h1]
  exact .inl ⟨by rw[e];exact h1,by rw[e],rfl,rfl⟩
 .have e:z00 l b=4:=by unfold z00;rw[z7 (by omega),zf h2]
  exact .inl ⟨by omega,by rw[e],rfl,rfl⟩
 .have e:z00 l b=0:=by unfold z00;rw[z7 (by omega),z7 (by omega)]
  exact .inr ⟨e,c,hc,hb,by unfold z07;rw[hb],rfl,rfl,rfl⟩
end Go.Proofs.YtlcbipfmodcedaaGreatDoor
namespace Go.Our
open Go.Sx Go.Lib
structure z0v(n:Nat)(p:Nat->Nat):Prop where
 oC:∀x,x<n->p x<n
 inj:∀x y,x<n->y<n->p x=p y->x=y
theorem z0v.perm{n:Nat}{p:Nat->Nat}(h:z0v n p):((List.range n).map p).Perm (List.range n):=by
 have hn:((List.range n).map p).Nodup:=by
  have h1:(List.range n).Nodup:=xJ;rw[List.nodup_iff_pairwise_ne]at h1⊢;rw[List.pairwise_map];exact List.Pairwise.imp_of_mem (fun{a b} ha hb hne e=>hne (h.inj a b (yj.1 ha) (yj.1 hb) e)) h1
 refine jD hn xJ fun z=>⟨fun hz=>?_,fun hz=>?_⟩
 .obtain⟨x,hx,rfl⟩:=yc.1 hz;exact yj.2 (h.oC x (yj.1 hx))
 .by_cases hm:z∈(List.range n).map p
  exact hm
  .have h1:=LP (x:=z::(List.range n).map p) (l:=List.range n) (List.nodup_cons.2 ⟨hm,hn⟩) (fun w hw=>by
    rcases zL.1 hw with rfl|hw
    exact hz
    .obtain⟨x,hx,rfl⟩:=yc.1 hw
     exact yj.2 (h.oC x (yj.1 hx)))
   simp at h1;omega
def twT(A C:List LB)(p:Nat->Nat)(t:Tm):Tm:=if t.k=2 then{t with t:=C.getD (p (A.idxOf t.t)) []}else t
def twQ(A C:List LB)(p:Nat->Nat)(q:Qd):Qd:=⟨twT A C p q.s,twT A C p q.p,twT A C p q.o,twT A C p q.g⟩
structure Twin(A C:List LB)(l m:List Qd)(p:Nat->Nat):Prop where
 len:C.length=A.length
 turn:z0v A.length p
 ndA:A.Nodup
 oL:C.Nodup
 mem:∀s∈Zz l,s∈A
 img:m.Perm (l.map (twQ A C p))
structure Twn(n:Nat)(p:Nat->Nat)(cl gx:List Int):Prop where
 l1:cl.length=n
 l2:gx.length=n
 at':∀x,x<n->gx.getD (p x) 0=cl.getD x 0
theorem Zm2{K:Type}(l:List K)(d:K):(List.range l.length).map (fun k=>l.getD k d)=l:=by
 apply yV (by simp);intro i h1 h2;rw[yg,yS,zl,z1 h2,Option.getD_some]
theorem ZkR{K:Type}{l:List K}{d:K}{i:Nat}(h:i<l.length):l.getD i d=l[i]:=by
 rw[zl,z1 h,Option.getD_some]
theorem ZkS{f:Nat->Int}{n x:Nat}(hx:x<n):((List.range n).map f).getD x 0=f x:=by
 rw[ZkR (by simpa using hx),yg,yS]
theorem Zl9(A:List LB)(l:List Qd)(cl:List Int)(x:Nat):rz A l cl x=(l.filter fun q=>decide (A.getD x []∈Zw q)).map (mO A cl x):=by
 unfold rz cc;conv=>rhs;rw[<-Zm2 l ⟨ZC,ZC,ZC,ZC⟩,List.filter_map,xo]
 rfl
section
variable {A C:List LB}{l m:List Qd}{p:Nat->Nat}(T:Twin A C l m p)
include T
theorem Twin.idx{i:Nat}(hi:i<A.length):C.idxOf (C.getD (p i) [])=p i:=by
 have h1:p i<C.length:=by rw[T.len];exact T.turn.oC i hi
 rw[ZkR h1];have h2:=y7 (zk h1);exact(x9 T.oL).1 (yI h2)
theorem Twin.seen{cl gx:List Int}(c:Twn A.length p cl gx){x:Nat}(hx:x<A.length){t:Tm}(ht:t.k=2->A.idxOf t.t<A.length):Xo C gx (p x) (twT A C p t)=Xo A cl x t:=by
 unfold Xo twT;by_cases h:t.k=2
 .have hi:=ht h;rw[zf h,zf h,zf h];dsimp only;rw[T.idx hi,c.at' _ hi];by_cases e:A.idxOf t.t=x
  rw[zf e,zf (by rw[e])];rw[z7 e,z7 (fun e2=>e (T.turn.inj _ _ hi hx e2))]
 rw[z7 h,z7 h,z7 h]
theorem Twin.four{q:Qd}(hq:q∈l):(q.s.k=2->A.idxOf q.s.t<A.length)/\(q.p.k=2->A.idxOf q.p.t<A.length)/\(q.o.k=2->A.idxOf q.o.t<A.length)/\(q.g.k=2->A.idxOf q.g.t<A.length):=by
 obtain⟨h1,h2,h3,h4⟩:=HX (q:=q) (A:=A) fun s hs=>T.mem s (xV.2 ⟨q,hq,hs⟩);exact⟨fun h=>y7 (h1 h),fun h=>y7 (h2 h),fun h=>y7 (h3 h),fun h=>y7 (h4 h)⟩
theorem Twin.view{cl gx:List Int}(c:Twn A.length p cl gx){x:Nat}(hx:x<A.length){q:Qd}(hq:q∈l):mO C gx (p x) (twQ A C p q)=mO A cl x q:=by
 obtain⟨h1,h2,h3,h4⟩:=T.four hq;unfold mO twQ;dsimp only;rw[T.seen c hx h1,T.seen c hx h2,T.seen c hx h3,T.seen c hx h4]
theorem Twin.inT{x:Nat}(hx:x<A.length){t:Tm}(ht:t.k=2->A.idxOf t.t<A.length):C.getD (p x) []∈Y0 (twT A C p t)<->A.getD x []∈Y0 t:=by
 unfold Y0 twT;by_cases h:t.k=2
 .have hi:=ht h;rw[zf h,zf h,zf h,zI,zI];dsimp only;have ha:A.getD (A.idxOf t.t) []=t.t:=by rw[ZkR hi];exact yI hi
  constructor
  .intro e;have e2:=z8 C.idxOf e;rw[T.idx hx,T.idx hi]at e2;rw[T.turn.inj _ _ hx hi e2,ha]
  .intro e;rw[<-ha,ZkR hx,ZkR hi]at e;rw[(x9 T.ndA).1 e]
 .rw[z7 h];simp[h]
theorem Twin.inQ{x:Nat}(hx:x<A.length){q:Qd}(hq:q∈l):C.getD (p x) []∈Zw (twQ A C p q)<->A.getD x []∈Zw q:=by
 obtain⟨h1,h2,h3,h4⟩:=T.four hq;unfold Zw twQ;simp only[zQ];rw[T.inT hx h1,T.inT hx h2,T.inT hx h3,T.inT hx h4]
theorem Twin.views{cl gx:List Int}(c:Twn A.length p cl gx){x:Nat}(hx:x<A.length):(rz C m gx (p x)).Perm (rz A l cl x):=by
 rw[Zl9,Zl9];refine((T.img.filter _).map _).trans ?_;rw[List.filter_map,xo]
 have hf:(l.filter ((fun q=>decide (C.getD (p x) []∈Zw q))∘twQ A C p))=l.filter fun q=>decide (A.getD x []∈Zw q):=
  List.filter_congr fun q hq=>vv.2 (T.inQ hx hq)
 rw[hf];refine .of_eq (yy fun q hq=>?_);exact T.view c hx (List.mem_filter.1 hq).1
theorem Twin.sign{cl gx:List Int}(c:Twn A.length p cl gx){x:Nat}(hx:x<A.length):Yo C m gx (p x)=Yo A l cl x:=by
 unfold Yo;exact Za0 kH ((x6 _ _).trans (T.views c hx)) (Xa kH _)
theorem Twin.node{cl gx:List Int}(c:Twn A.length p cl gx){a b:Nat}(ha:a<A.length)(hb:b<A.length):UH C m gx (p a) (p b)=UH A l cl a b:=by
 unfold UH;rw[c.at' a ha,c.at' b hb,T.sign c ha,T.sign c hb]
theorem Twin.z1e{cl gx:List Int}(c:Twn A.length p cl gx){x:Nat}(hx:x<A.length):uZ (UH C m gx) (List.range A.length) (p x)=uZ (UH A l cl) (List.range A.length) x:=by
 rw[<-ZdW T.turn.perm];unfold uZ;rw[List.countP_map];refine List.countP_congr fun y hy=>?_;show decide (UH C m gx (p y) (p x)<0)=true<->_
 rw[T.node c (yj.1 hy) hx]
theorem Twin.step{cl gx:List Int}(c:Twn A.length p cl gx):Twn A.length p (Yt A l cl) (Yt C m gx) where
 l1:=by rw[YZ,c.l1]
 l2:=by rw[YZ,c.l2]
 at' x hx:=by
  unfold Yt;rw[c.l1,c.l2,ZkS hx,ZkS (T.turn.oC x hx),T.z1e c hx]
theorem Twin.perm{cl gx:List Int}(c:Twn A.length p cl gx):gx.Perm cl:=by
 have h1:=Zm2 gx 0;have h2:=Zm2 cl 0;rw[c.l2]at h1;rw[c.l1]at h2;rw[<-h1,<-h2];refine(T.turn.perm.map _).symm.trans ?_;rw[xo];exact .of_eq (yy fun x hx=>c.at' x (yj.1 hx))
theorem Twin.cls{cl gx:List Int}(c:Twn A.length p cl gx):wO gx=wO cl:=(LN (T.perm c)).length_eq
theorem Twin.refs{cl F:List Int}(h:Refs A l cl F):∀gx,Twn A.length p cl gx->∃F',Refs C m gx F'/\Twn A.length p F F':=by
 induction h with
 |stop hn=>exact fun gx c=>⟨_, .stop (by rw[T.cls (T.step c),T.cls c];exact hn),T.step c⟩
 |go hy _ ih=>
  intro gx c;obtain⟨F',h1,h2⟩:=ih _ (T.step c);exact⟨F', .go (by rw[T.cls (T.step c),T.cls c];exact hy) h1,h2⟩
end
theorem Zm3(A:List LB)(l:List Qd):∀(k:Nat) (cl:List Int),cl.length<=wO cl+k->∃F,Refs A l cl F
 |0,cl,h=>⟨_, .stop (by have h1:=B7 A l cl;have h2:=B6 (Yt A l cl);rw[YZ]at h2;omega)⟩
 |k+1,cl,h=>by
  by_cases e:wO (Yt A l cl)=wO cl
  exact⟨_, .stop e⟩
  .obtain⟨F,hF⟩:=Zm3 A l k (Yt A l cl) (by have:=B7 A l cl;rw[YZ];omega);exact⟨F, .go e hF⟩
theorem Zmu(A:List LB)(l:List Qd)(cl:List Int):Refs A l cl (fG A l cl):=by
 obtain⟨F,hF⟩:=Zm3 A l cl.length cl (by omega);rw[HP hF];exact hF
noncomputable def ZkW (A:List LB)(l:List Qd):Nat->List Int->List (Option (List Int))
 |0,_=>[]
 |k+1,cl=>match J5 cl with
  |none=>[some cl]
  |some c=>none::(w9 cl (c:Int)).flatMap fun x=>ZkW A l k (fG A l (XO cl (c:Int) x))
theorem Zl7{A:List LB}{l:List Qd}{k:Nat}{cl:List Int}(h:J5 cl=none):ZkW A l (k+1) cl=[some cl]:=by unfold ZkW;rw[h]
theorem Zl8{A:List LB}{l:List Qd}{k c:Nat}{cl:List Int}(h:J5 cl=some c):ZkW A l (k+1) cl=none::(w9 cl (c:Int)).flatMap fun x=>ZkW A l k (fG A l (XO cl (c:Int) x)):=by
 conv=>lhs;unfold ZkW
 rw[h]
def lvs(f:List (Option (List Int))):List (List Int):=f.filterMap id
theorem Zlu{A:List LB}{l:List Qd}{B:Nat}:∀(k:Nat) (cl:List Int) (s:Nat×List (List Int)),
 (s.1+(ZkW A l k cl).length<=B->Vr A l B k cl s=(s.1+(ZkW A l k cl).length,s.2++lvs (ZkW A l k cl)))/\(B<s.1+(ZkW A l k cl).length->B< (Vr A l B k cl s).1)
 |0,cl,s=>⟨fun _=>by show s=(s.1+0,s.2++ []);rw[Nat.add_zero,zP],fun h=>h⟩
 |k+1,cl,s=>by
  have go:∀(c:Int) (xs:List Nat) (s:Nat×List (List Int)),(s.1+(xs.flatMap fun x=>ZkW A l k (fG A l (XO cl c x))).length<=B->UI A l B k cl c xs s=(s.1+(xs.flatMap fun x=>ZkW A l k (fG A l (XO cl c x))).length,s.2++lvs (xs.flatMap fun x=>ZkW A l k (fG A l (XO cl c x)))))/\
   (B<s.1+(xs.flatMap fun x=>ZkW A l k (fG A l (XO cl c x))).length->B< (UI A l B k cl c xs s).1):=fun c xs=>by
   induction xs with
   |nil=>exact fun s=>⟨fun _=>by show s=(s.1+0,s.2++ []);rw[Nat.add_zero,zP],fun h=>h⟩
   |cons x xs ih=>
    intro s;obtain⟨t1,t2⟩:=Zlu k (fG A l (XO cl c x)) s;rw[List.flatMap_cons,zh];generalize ZkW A l k (fG A l (XO cl c x))=f at t1 t2⊢;by_cases h:B<s.1
    .rw[Vs h];exact⟨fun h2=>by omega,fun _=>h⟩
    .rw[Wb h];by_cases h2:s.1+f.length<=B
     .rw[t1 h2];obtain⟨i1,i2⟩:=ih (s.1+f.length,s.2++lvs f);dsimp only at i1 i2;refine⟨fun h3=>?_,fun h3=>i2 (by omega)⟩;rw[i1 (by omega),xD,zR];unfold lvs;rw[List.filterMap_append]
     .have t3:=t2 (by omega);rw[Vs t3];exact⟨fun h3=>by omega,fun _=>t3⟩
  by_cases h:B<s.1+1
  .rw[W8 h]
   have hp:0< (ZkW A l (k+1) cl).length:=by
    cases hs:J5 cl with
    |none=>rw[Zl7 hs];simp
    |some c=>rw[Zl8 hs];simp
   exact⟨fun h2=>by omega,fun _=>h⟩
  .cases hs:J5 cl with
   |none=>
    rw[W9 h hs,Zl7 hs];exact⟨fun _=>rfl,fun h2=>(h h2).elim⟩
   |some c=>
    rw[Wa h hs,Zl8 hs];obtain⟨g1,g2⟩:=go (c:Int) (w9 cl (c:Int)) (s.1+1,s.2);dsimp only at g1 g2;rw[List.length_cons];refine⟨fun h2=>?_,fun h2=>g2 (by omega)⟩;rw[g1 (by omega)];refine Prod.ext ?_ rfl;show s.1+1+_=s.1+(_+1)
    omega
section
variable {A C:List LB}{l m:List Qd}{p:Nat->Nat}(T:Twin A C l m p)
include T
theorem Twin.fG{cl gx:List Int}(c:Twn A.length p cl gx):Twn A.length p (fG A l cl) (fG C m gx):=by
 obtain⟨F',h1,h2⟩:=T.refs (Zmu A l cl) gx c;rw[HP h1];exact h2
theorem Twin.pos{cl gx:List Int}(c:Twn A.length p cl gx)(k:Int):(w9 gx k).Perm ((w9 cl k).map p):=by
 unfold w9;rw[c.l1,c.l2];refine(T.turn.perm.symm.filter _).trans ?_;rw[List.filter_map];refine .of_eq (z8 _ (List.filter_congr fun x hx=>?_));show decide (gx.getD (p x) 0=k)=_
 rw[c.at' x (yj.1 hx)]
theorem Twin.split{cl gx:List Int}(c:Twn A.length p cl gx):J5 gx=J5 cl:=by
 unfold J5;rw[c.l1,c.l2];congr 1;funext k;rw[(T.pos c k).length_eq,zy]
theorem Twin.child{cl gx:List Int}(c:Twn A.length p cl gx)(k:Int){x:Nat}(hx:x<A.length):Twn A.length p (XO cl k x) (XO gx k (p x)) where
 l1:=by rw[HO,c.l1]
 l2:=by rw[HO,c.l2]
 at' y hy:=by
  unfold XO;rw[c.l1,c.l2,ZkS hy,ZkS (T.turn.oC y hy),c.at' y hy];by_cases e:y=x
  rw[z7 (fun h=>h.1 (by rw[e])),z7 (fun h=>h.1 e)]
  .have e2:p y≠p x:=fun h=>e (T.turn.inj _ _ hy hx h);by_cases h:cl.getD y 0=k
   rw[zf ⟨e2,h⟩,zf ⟨e,h⟩];rw[z7 (fun h2=>h h2.2),z7 (fun h2=>h h2.2)]
theorem Twin.JW{cl gx:List Int}(c:Twn A.length p cl gx){t:Tm}(ht:t.k=2->A.idxOf t.t<A.length):JW C gx (twT A C p t)=JW A cl t:=by
 unfold Go.Our.JW twT;by_cases h:t.k=2
 .have hi:=ht h;rw[zf h,zf h,zf h];dsimp only;rw[T.idx hi,c.at' _ hi]
 rw[z7 h,z7 h,z7 h]
theorem Twin.form{cl gx:List Int}(c:Twn A.length p cl gx):ZA C m gx=ZA A l cl:=by
 unfold ZA;refine Za0 kH ((x6 _ _).trans ((T.img.map _).trans ?_)) (Xa kH _);rw[xo];refine .of_eq (yy fun q hq=>?_);obtain⟨h1,h2,h3,h4⟩:=T.four hq;show UA C gx (twQ A C p q)=_
 unfold UA twQ;dsimp only;rw[T.JW c h1,T.JW c h2,T.JW c h3,T.JW c h4]
theorem Twin.full:∀(k:Nat) (cl gx:List Int),Twn A.length p cl gx->((ZkW C m k gx).map (Option.map (ZA C m))).Perm ((ZkW A l k cl).map (Option.map (ZA A l)))
 |0,_,_,_=> .refl _
 |k+1,cl,gx,c=>by
  cases hs:J5 cl with
  |none=>
   rw[Zl7 hs,Zl7 ((T.split c).trans hs)];exact .of_eq (by show [some (ZA C m gx)]=[some (ZA A l cl)];rw[T.form c])
  |some i=>
   rw[Zl8 hs,Zl8 ((T.split c).trans hs),zG,zG];refine .cons _ ?_;rw[List.map_flatMap,List.map_flatMap];refine((T.pos c (i:Int)).flatMap_right _).trans ?_;rw[List.flatMap_map];have hx:∀x∈w9 cl (i:Int),x<A.length:=fun x hx=>by have:=(aK.1 hx).1;rw[c.l1]at this;exact this
   generalize w9 cl (i:Int)=xs at hx
   induction xs with
   |nil=>exact .refl _
   |cons x xs ih=>
    rw[List.flatMap_cons,List.flatMap_cons];exact(Twin.full k _ _ (T.fG (T.child c _ (hx x (zJ ..))))).append (ih fun y hy=>hx y (zK _ hy))
end
theorem Zlk(fm:List Int->List Qd)(Ls:List (List Int)):∀f c,JV fm Ls=some (f,c)->f∈Ls.map fm/\∀g∈Ls.map fm,Y6 f g<=0:=by
 have go:∀n,∀Ls:List (List Int),Ls.length=n->∀f c,JV fm Ls=some (f,c)->f∈Ls.map fm/\∀g∈Ls.map fm,Y6 f g<=0:=by
  intro n
  induction n with
  |zero=>
   intro Ls h f c hb;rw[zM.1 h]at hb;cases hb
  |succ n ih=>
   intro Ls h f c hb;have hne:Ls≠ []:=fun e=>by rw[e]at h;simp at h
   obtain⟨By,cl,rfl⟩:∃By cl,Ls=By++ [cl]:=⟨Ls.dropLast,Ls.getLast hne,(List.dropLast_concat_getLast hne).symm⟩;rw[RV]at hb;have hMs:By.length=n:=by rw[zh]at h;simp at h;exact h
   rw[yz,zG,yP];cases hM:JV fm By with
   |none=>
    rw[hM]at hb;injection hb with hb;injection hb with h1 h2;subst h1 h2
    have:By=[]:=by
     by_cases e:By=[]
     exact e
     .obtain⟨d,_,e2⟩:=HS fm e;rw[hM]at e2;cases e2
    subst this;refine⟨by simp,fun g hg=>?_⟩;rw[yP,List.nil_append,zI]at hg;subst hg;have:=(cM.zero (fm cl) (fm cl)).2 rfl;omega
   |some q=>
    obtain⟨f0,c0⟩:=q;obtain⟨i1,i2⟩:=ih By hMs f0 c0 hM;rw[hM]at hb;have e:YQ fm (some (f0,c0)) cl=if Y6 (fm cl) f0<0 then some (fm cl,cl)else some (f0,c0):=rfl
    rw[e]at hb;by_cases h3:Y6 (fm cl) f0<0
    .rw[zf h3]at hb;injection hb with hb;injection hb with h1 h2;subst h1 h2;refine⟨by simp,fun g hg=>?_⟩;rcases zQ.1 hg with hg|hg
     exact cM.trans _ _ _ (by omega) (i2 g hg)
     .rw[zI.1 hg];have:=(cM.zero (fm cl) (fm cl)).2 rfl;omega
    .rw[z7 h3]at hb;injection hb with hb;injection hb with h1 h2;subst h1 h2;refine⟨vu _ i1,fun g hg=>?_⟩;rcases zQ.1 hg with hg|hg
     exact i2 g hg
     .rw[zI.1 hg];have:=cM.anti (fm cl) f0;omega
 exact go _ Ls rfl
theorem Zlg(A:List LB)(l:List Qd)(B:Nat):((JM A l B).1<=B<->(ZkW A l (B+1) (fG A l (List.replicate A.length 0))).length<=B)/\((JM A l B).1<=B->(JM A l B).2=lvs (ZkW A l (B+1) (fG A l (List.replicate A.length 0)))):=by
 obtain⟨h1,h2⟩:=Zlu (A:=A) (l:=l) (B:=B) (B+1) (fG A l (List.replicate A.length 0)) (0,[]);simp only[zx,List.nil_append]at h1 h2;have e:JM A l B=Vr A l B (B+1) (fG A l (List.replicate A.length 0)) (0,[]):=rfl;rw[e];by_cases h:(ZkW A l (B+1) (fG A l (List.replicate A.length 0))).length<=B
 rw[h1 h];exact⟨⟨fun _=>h,fun _=>h⟩,fun _=>rfl⟩
 .have:=h2 (by omega);exact⟨⟨fun h3=>by omega,fun h3=>(h h3).elim⟩,fun h3=>by omega⟩
theorem Zm4(f:List (Option (List Int)))(fm:List Int->List Qd):(lvs f).map fm=(f.map (Option.map fm)).filterMap id:=by
 unfold lvs
 induction f with
 |nil=>rfl
 |cons x f ih=>
  cases x with
  |none=>rw[zG];simpa using ih
  |some x=>rw[zG];simpa using ih
theorem Twin.search{A C:List LB}{l m:List Qd}{p:Nat->Nat}(T:Twin A C l m p)(B:Nat):
 ((JM C m B).1<=B<->(JM A l B).1<=B)/\((JM A l B).1<=B->∀f c f' c',JV (ZA A l) (JM A l B).2=some (f,c)->JV (ZA C m) (JM C m B).2=some (f',c')->f'=f):=by
 have c0:Twn A.length p (List.replicate A.length 0) (List.replicate C.length 0):=⟨by simp,by simp[T.len],fun x hx=>by
  have h1:=T.turn.oC x hx
  rw[ZkR (by rw[yK,T.len];exact h1),ZkR (by rw[yK];exact hx)];simp⟩
 have hp:=T.full (B+1) _ _ (T.fG c0);obtain⟨a1,a2⟩:=Zlg A l B;obtain⟨b1,b2⟩:=Zlg C m B;generalize ZkW A l (B+1) (Go.Our.fG A l (List.replicate A.length 0))=f at hp a1 a2;generalize ZkW C m (B+1) (Go.Our.fG C m (List.replicate C.length 0))=g at hp b1 b2;have hl:=hp.length_eq;rw[zy,zy]at hl;refine⟨by rw[a1,b1,hl],fun h f1 c1 f2 c2 h1 h2=>?_⟩;rw[a2 h]at h1;rw[b2 (b1.2 (by rw[hl];exact a1.1 h))]at h2
 have hq:((lvs g).map (ZA C m)).Perm ((lvs f).map (ZA A l)):=by
  rw[Zm4,Zm4];exact hp.filterMap _
 obtain⟨i1,i2⟩:=Zlk _ _ _ _ h1;obtain⟨j1,j2⟩:=Zlk _ _ _ _ h2;have k1:=i2 f2 (hq.mem_iff.1 j1);have k2:=j2 f1 (hq.mem_iff.2 i1);have:=cM.anti f1 f2;exact((cM.zero f1 f2).1 (by omega)).symm
end Go.Our
namespace Go.Our
open Go.Sx
theorem Zm5{m m' a b c d b' c' d':Int}(h:(eL m a b c d).2≠0)(hm:m<=m')(hb:2<=m->b'=b)(hc:3<=m->c'=c)(hd:4<=m->d'=d):eL m' a b' c' d'=eL m a b c d:=by
 unfold eL at h⊢;by_cases a1:a<128
 rw[zf a1,zf a1];rw[z7 a1]at h⊢;rw[z7 a1];by_cases a2:a<192
 rw[zf a2]at h;exact(h rfl).elim;rw[z7 a2]at h⊢;rw[z7 a2];by_cases a3:a<224
 .rw[zf a3]at h⊢;rw[zf a3];split at h
  .rename_i k;rw[hb k.1,zf ⟨by omega,k.2⟩,zf k]
  exact(h rfl).elim
 rw[z7 a3]at h⊢;rw[z7 a3];by_cases a4:a<240
 .rw[zf a4]at h⊢;rw[zf a4];split at h
  .rename_i k;rw[hb (by omega),hc k.1,zf ⟨by omega,k.2⟩,zf k]
  exact(h rfl).elim
 rw[z7 a4]at h⊢;rw[z7 a4];by_cases a5:a<248
 .rw[zf a5]at h⊢;rw[zf a5];split at h
  .rename_i k;rw[hb (by omega),hc (by omega),hd k.1,zf ⟨by omega,k.2⟩,zf k]
  exact(h rfl).elim
 rw[z7 a5]at h;exact(h rfl).elim
theorem Zl4{s R:List UInt8}{k:Int}(h0:0<=k)(h:k<s.length):Z1 (s++R) k=Z1 s k:=by
 unfold Z1;rw[zl,zl,zn (by omega)]
theorem ZlB{s R:List UInt8}{i:Nat}(h:(Zc s i).2≠0):Zc (s++R) i=Zc s i:=by
 have hi:i<s.length:=Nat.lt_of_not_le fun h1=>h (Cy h1);unfold Zc at h⊢;rw[z7 (by omega)]at h;rw[z7 (by rw[zh];omega),z7 (by omega),Zl4 (by omega) (by omega)];exact Zm5 h (by rw[zh];omega) (fun h=>Zl4 (by omega) (by omega)) (fun h=>Zl4 (by omega) (by omega)) (fun h=>Zl4 (by omega) (by omega))
end Go.Our
namespace Go.Our
open Go.Sx Go.Lib
theorem Zm6{b:UInt8}(hb:b.toNat<128)(s:List UInt8)(i:Nat)(hi:i<=s.length):∀l,ud s i=some l->ud (s++ [b]) i=some (l++ [(b.toNat:Int)]):=by
 induction i using ud.induct s with
 |case1 i h h0 ih=>
  intro l hl;have hn:=YY s i;have e:=ZlB (R:=[b]) h0;rw[ud,yp h,yp h0]at hl;obtain⟨m,hm,rfl⟩:=zC.1 hl;rw[ud,yp (by rw[zh];omega),yp (by rw[e];exact h0),e,ih (by omega) m hm];rfl
 |case2 i h h0=>
  intro l hl;rw[ud,yp h,yQ h0]at hl;cases hl
 |case3 i h=>
  intro l hl;rw[ud,yQ h]at hl;injection hl with hl;subst hl;have hie:i=s.length:=by omega
  subst hie
  have e:Zc (s++ [b]) (s.length:Nat)=((b.toNat:Int),1):=by
   unfold Zc;rw[z7 (by rw[zh];simp;omega)]
   have:Z1 (s++ [b]) (s.length:Nat)=b.toNat:=by
    unfold Z1;rw[Int.toNat_natCast,zl,zw (zo _)];simp
   rw[this];unfold eL;rw[zf (by omega)]
  rw[ud,yp (by rw[zh];simp),yp (by rw[e];show(1:Int)≠0;omega),e];rw[ud,yQ (by rw[zh];simp)];rfl
theorem ZlG{d:Nat}(h:48<=d/\d<=57):X0 (d:Int):=by
 obtain rfl|rfl|rfl|rfl|rfl|rfl|rfl|rfl|rfl|rfl:d=48\/d=49\/d=50\/d=51\/d=52\/d=53\/d=54\/d=55\/d=56\/d=57:=by omega
 all_goals decide
theorem ZlH{d:Nat}(hd:48<=d/\d<=57):∀l:List Int,XZ l=true->XZ (l++ [(d:Int)])=true
 | [],_=>by
   show decide (X0 (d:Int))=true
   exact yq (ZlG hd)
 | [r],h=>by
   simp only[XZ,yw]at h;show(decide (X0 r\/r=46)&&decide (X0 (d:Int)))=true
   rw[yq (.inl h),yq (ZlG hd)];rfl
 |r::q::l,h=>by
  simp only[XZ,zj]at h;show(decide (X0 r\/r=46)&&XZ (q::l++ [(d:Int)]))=true
  rw[h.1,ZlH hd (q::l) h.2];rfl
theorem Zmv{s:List UInt8}{d:UInt8}(hd:48<=d.toNat/\d.toNat<=57)(h:iW s=0):iW (s++ [d])=0:=by
 rw[Zgf]at h⊢;unfold FW at h⊢;split at h
 .rename_i r l hs;split at h
  .rename_i hk;rw[Zm6 (by omega) s 0 (ve _) _ hs];exact zf ⟨hk.1,ZlH hd l hk.2⟩
  cases h
 cases h
theorem z08:∀(ds:List UInt8) {s:List UInt8},(∀d∈ds,48<=d.toNat/\d.toNat<=57)->iW s=0->iW (s++ds)=0
 | [],s,_,h=>by rw[zP];exact h
 |d::ds,s,hd,h=>by
  have e:s++d::ds=(s++ [d])++ds:=by simp
  rw[e];exact z08 ds (fun x hx=>hd x (zK _ hx)) (Zmv (hd d (zJ ..)) h)
theorem Zmw(c:Int):iW (gG c)=0:=
 z08 (decDigits c.toNat) (s:=[99]) (DZ _) (by decide+kernel)
end Go.Our
namespace Go.Proofs.YtlcbipfmodcedaaGreatDoor
open Go.Sx Go.Our Go.Lib
section
variable {a b:List Qd}{ps:List Pr}
theorem ZlI{l:List Qd}{s:LB}(h:s∈Zz l):s∈ZQ l:=(JI _ _).2 h
theorem Bij.twin(h:Bij a b ps):∃p,Go.Our.Twin (ZQ a) (ZQ b) a b p:=by
 have hto:∀s∈ZQ a,∃u,(s,u)∈ps/\dM ps s=some u:=fun s hs=>Zl6 h.fs hs;have hsn:(ps.map Prod.snd).Nodup:=h.OF.symm.nodup (ZkQ b);have hfn:(ps.map Prod.fst).Nodup:=h.fs.symm.nodup (ZkQ a);have hu:∀{s u:LB},(s,u)∈ps->u∈ZQ b:=fun hp=>h.OF.mem_iff.1 (yc.2 ⟨_,hp,rfl⟩)
 have inj:∀{s t u:LB},(s,u)∈ps->(t,u)∈ps->s=t:=fun{s t u} h1 h2=>by
  obtain⟨i,hi,e1⟩:=yM.1 h1;obtain⟨j,hj,e2⟩:=yM.1 h2;have:(ps.map Prod.snd)[i]'(by simpa using hi)=(ps.map Prod.snd)[j]'(by simpa using hj):=by simp[e1,e2]
  have:=(x9 hsn).1 this;subst this;rw[e1]at e2;exact(Prod.mk.inj e2).1
 have nm:∀x,x< (ZQ a).length->∃u,((ZQ a).getD x [],u)∈ps/\dM ps ((ZQ a).getD x [])=some u:=fun x hx=>by
  rw[ZkR hx];exact hto _ (zk hx)
 refine⟨fun x=>(ZQ b).idxOf ((dM ps ((ZQ a).getD x [])).getD []),?_,⟨fun x hx=>?_,fun x y hx hy e=>?_⟩,ZkQ a,ZkQ b,fun s hs=>ZlI hs,?_⟩
 .have h1:=h.fs.length_eq;have h2:=h.OF.length_eq;rw[zy]at h1 h2;omega
 .obtain⟨u,h1,h2⟩:=nm x hx;rw[h2,Option.getD_some];have h3:=y7 (hu h1);have h4:=h.fs.length_eq;have h5:=h.OF.length_eq;rw[zy]at h4 h5;omega
 .obtain⟨u,h1,h2⟩:=nm x hx;obtain⟨v,h3,h4⟩:=nm y hy;rw[h2,h4,Option.getD_some,Option.getD_some]at e
  have e2:u=v:=by
   have a1:=yI (y7 (hu h1));have a2:=yI (y7 (hu h3));rw[<-a1,<-a2];simp only[e]
  subst e2;have e3:=inj h1 h3;rw[ZkR hx,ZkR hy]at e3;exact(x9 (ZkQ a)).1 e3
 .refine h.img.trans (.of_eq (yy fun q hq=>?_));refine Zlc (f:=nX ps) (g:=twT (ZQ a) (ZQ b) _) fun t ht=>?_;by_cases hk:t.k=2
  .have hm:=ZkX hq ht hk;obtain⟨u,h1,h2⟩:=hto _ hm;have hi:=y7 hm;rw[ZkV hk h2];unfold twT;rw[zf hk];dsimp only;rw[ZkR hi,yI hi,h2,Option.getD_some];have h3:=y7 (hu h1);rw[ZkR h3,yI h3]
  .rw[ZkZ hk];unfold twT;rw[z7 hk]
theorem Zm7{l:List Qd}(h:z01 l):kJ l=if 4096< (ZQ l).length then 2 else 0:=by
 unfold kJ;rw[ZmK h];by_cases e:4096< (ZQ l).length
 rw[zf ⟨rfl,e⟩,zf e];rw[z7 (fun h=>e h.2),z7 e]
theorem Zm8{l:List Qd}{n:Int}(h:z00 l n=0):∃c,c∈(JM (ZQ l) l (jU n)).2/\JV (ZA (ZQ l) l) (JM (ZQ l) l (jU n)).2=some (ZA (ZQ l) l c,c)/\z07 l n=ZA (ZQ l) l c:=by
 have hs:(JM (ZQ l) l (jU n)).1<=jU n:=by
  unfold z00 at h;split at h
  exact absurd h ‹_›
  .split at h
   cases h
   omega
 obtain⟨c,h1,h2⟩:=HS (ZA (ZQ l) l) (S2 hs);exact⟨c,h1,h2,by unfold z07;rw[h2]⟩
theorem Bij.can(h:Bij a b ps)(n:Int):z00 b n=z00 a n/\(z00 a n=0->z07 b n=z07 a n):=by
 obtain⟨p,T⟩:=h.twin;obtain⟨s1,s2⟩:=T.search (jU n)
 have hE:z00 b n=z00 a n:=by
  unfold z00;rw[Zm7 h.va,Zm7 h.vb,T.len];by_cases e:jU n< (JM (ZQ a) a (jU n)).1
  rw[zf e,zf (show jU n< (JM (ZQ b) b (jU n)).1 by omega)];rw[z7 e,z7 (show ¬jU n< (JM (ZQ b) b (jU n)).1 by omega)]
 refine⟨hE,fun h0=>?_⟩;obtain⟨c,_,h1,h2⟩:=Zm8 h0;obtain⟨d,_,h3,h4⟩:=Zm8 (hE.trans h0)
 have hs:(JM (ZQ a) a (jU n)).1<=jU n:=by
  unfold z00 at h0;split at h0
  exact absurd h0 ‹_›
  .split at h0
   cases h0
   omega
 rw[h4,h2];exact s2 hs _ _ _ _ h1 h3
theorem Zml{A:List LB}{c:List Int}:(wC A c).map Prod.fst=A:=by
 apply yV (by rw[zy,Go.Our.XD]);intro i h1 h2;rw[yg,Qg h2 (by rw[Go.Our.XD];exact h2)]
theorem Zmm{l:List Qd}{c:List Int}(d:z01 l)(h4:(ZQ l).length<=4096)(hL:wH (ZQ l) c):Bij l (ZA (ZQ l) l c) (wC (ZQ l) c):=by
 have hr:=S8 hL (ZkQ l) d.z52 (fun s hs=>ZlI hs);rw[<-hr];have ki:=hL.cn
 have m:∀z,z<c.length->0<=c.getD z 0/\c.getD z 0<4096:=fun z hz=>by
  rw[ZkR hz];have:=hL.cs _ (zk hz);omega
 refine Zm1 d (.of_eq Zml) ?_ fun u hu=>?_
 .rw[List.nodup_iff_pairwise_ne,xk];intro i j hi hj hij e;rw[zy,Go.Our.XD]at hi hj;rw[yg,yg,Qg hi (by rw[Go.Our.XD];exact hi),Qg hj (by rw[Go.Our.XD];exact hj)]at e;dsimp only at e;unfold gG at e;injection e with _ e;have e5:=FC e;have c1:=(m i (by omega)).1;have c2:=(m j (by omega)).1;have:=S7 hL (show i<c.length by omega) (show j<c.length by omega) (by omega);omega
 .obtain⟨q,hq,rfl⟩:=yc.1 hu;unfold wC at hq;obtain⟨x,hx,rfl⟩:=yc.1 hq;have hx:=yj.1 hx;have:=(m x (by omega));have hd:(decDigits (c.getD x 0).toNat).length<=3+1:=iR 3 _ (by omega);exact⟨by show(99::decDigits (c.getD x 0).toNat).length<=65536;rw[List.length_cons];omega,Zmw _⟩
end
end Go.Proofs.YtlcbipfmodcedaaGreatDoor
namespace Go.Proofs.YtlcbipfmodcedaaGreatDoor
open Go.Sx Go.Our
def eQ(f t:LB):Qd:=⟨⟨2,f,[],[]⟩,⟨1,[112,58],[],[]⟩,⟨2,t,[],[]⟩,ZC⟩
abbrev Pd:List Qd:=[eQ [97] [98]]
abbrev TO:List Qd:=[eQ [120] [121]]
abbrev NO:List Qd:=[eQ [97] [98],eQ [98] [97]]
abbrev IN:List Qd:=[eQ [120] [120],eQ [121] [121]]
abbrev Pe:List Qd:=[eQ [97] [98],eQ [98] [99]]
theorem z1g{l:List Qd}(h1:(l.zip l.tail).all (fun x=>decide (ZP x.1 x.2<0))=true)(h2:(l.all fun q=>decide (Vj q=0))=true)(h3:l.length<=1048576):(YL l).2=0:=by
 rw[zT]at h2;have hr:=ZlW l h1;have hc:∀q∈l,Vj q=0:=fun q hq=>by simpa using h2 q hq
 have b1:∀(n i:Nat),l.length-i<=n->jA l i=none:=by
  intro n
  induction n with
  |zero=>intro i hi;exact CD (by omega)
  |succ n ih=>
   intro i hi;by_cases hl:i<l.length
   .rw[FZ hl,z7 (by rw[hc _ (zk hl)];simp)];exact ih _ (by omega)
   exact CD (by omega)
 have b2:∀(n i:Nat),l.length-i<=n->1<=i->oc l i=none:=by
  intro n
  induction n with
  |zero=>intro i hi _;exact Lb (by omega)
  |succ n ih=>
   intro i hi h1;by_cases hl:i<l.length
   .have:=ZlE hr (i:=i-1) (j:=i) (by omega) hl;rw[CF hl,z7 (by omega)];exact ih _ (by omega) (by omega)
   exact Lb (by omega)
 unfold YL;rw[z7 (by omega),b1 _ 0 (zo _),b2 _ 1 (zo _) (zo _)]
theorem w_l{l:List Qd}{m:List LB}(h1:m.Pairwise fun a b=>cmpL a b<0)(h2:(Zz l).all (fun x=>decide (x∈m))=true)(h3:m.all (fun x=>decide (x∈Zz l))=true):ZQ l=m:=by
 refine(DL qA h1 fun x=>⟨fun h=>?_,fun h=>?_⟩).symm;rw[zT]at h3;simpa using h3 x h;rw[zT]at h2;simpa using h2 x h
end Go.Proofs.YtlcbipfmodcedaaGreatDoor
namespace Go.Proofs.YtlcbipfmodcedaaGreatDoor
open Go.Sx Go.Our Go.Lib
open _root_.Go.Proofs.Tryz
def cwQ:Qd:=⟨⟨2,[120],[],[]⟩,⟨1,[112,58],[],[]⟩,⟨2,[121],[],[]⟩,ZC⟩
def cwL:List Qd:=[cwQ]
def cwA:List LB:=[[120],[121]]
theorem z1h:(YL cwL).2=0:=z1g (by decide+kernel) (by decide+kernel) (by decide)
theorem z0n:ZQ cwL=cwA:=w_l (by decide+kernel) (by decide+kernel) (by decide+kernel)
def cwV(s o:LB):Qd:=⟨⟨2,s,[],[]⟩,⟨1,[112,58],[],[]⟩,⟨2,o,[],[]⟩,ZC⟩
theorem ZmL:Yo cwA cwL [0,0] 0=[cwV [120] [48,48,48,48]]:=by
 unfold Yo;rw[show rz cwA cwL [0,0] 0=[cwV [120] [48,48,48,48]]by decide+kernel,List.mergeSort_singleton]
theorem ZmM:Yo cwA cwL [0,0] 1=[cwV [48,48,48,48] [120]]:=by
 unfold Yo;rw[show rz cwA cwL [0,0] 1=[cwV [48,48,48,48] [120]]by decide+kernel,List.mergeSort_singleton]
theorem Zm9{c:Nat->Nat->Int}(h:Pre c)(h01:c 1 0<0):(List.range 2).map (fun x=>(uZ c (List.range 2) x:Int))=[1,0]:=by
 have rD:=h.refl 0;have h11:=h.refl 1;have h10:¬c 0 1<0:=fun e=>by have:=h.aG h01 (show c 0 1<=0 by omega);omega
 show [(uZ c [0,1] 0:Int),(uZ c [0,1] 1:Int)]=[1,0]
 unfold uZ;simp[List.countP_cons,rD,h11,h10,h01]
theorem Zma:Yt cwA cwL [0,0]=[1,0]:=Zm9 (Vz cwA cwL [0,0]) (by
 unfold UH;rw[zf (by decide),ZmL,ZmM]
 decide+kernel)
theorem ZlJ:Yt cwA cwL [1,0]=[1,0]:=Zm9 (Vz cwA cwL [1,0]) (by
 unfold UH;rw[z7 (by decide)]
 decide)
theorem Zmx:Refs cwA cwL [0,0] [1,0]:=by
 refine .go (by rw[Zma];decide) ?_;rw[Zma];have h:Refs cwA cwL [1,0] (Yt cwA cwL [1,0]):= .stop (by rw[ZlJ]);rwa [ZlJ]at h
theorem Zlv:JM cwA cwL 1=(1,[[1,0]]):=by
 unfold JM;rw[show List.replicate cwA.length (0:Int)=[0,0]from rfl,HP Zmx,W9 (by decide) (by decide)]
 rfl
theorem Zmr:jU 1=1:=by decide
theorem z1i:z00 cwL 1=0:=by
 unfold z00;rw[z0n,Zmr,Zlv,z7 (show ¬kJ cwL≠0 by unfold kJ;rw[z1h,z0n];decide),z7 (by decide)]
theorem Zmy:ZA cwA cwL [1,0]=[cwV [99,49] [99,48]]:=by
 unfold ZA;rw[show cwL.map (UA cwA [1,0])=[cwV [99,49] [99,48]]by decide+kernel,List.mergeSort_singleton]
theorem ZmE:wC cwA [1,0]=[([120],[99,49]),([121],[99,48])]:=by decide+kernel
theorem ZlC:vS prog uf 19 0 [] [] [] (w6 0 (.bool true)):=by
 have hC:=ZcL cwL [] none 1 (by decide) (by decide) (fun q hq=>by rw[zI.1 hq];decide+kernel) (by decide);rw[zP]at hC;refine vS.enter Z0 call19 func19 rfl 55 rfl rfl [.tmp 0] rfl ?_;intro w0 F η0 h0;conv=>whnf
 repeat'(first|refine AU ?_|refine IW ?_ ?_<;>intro h<;>try omega)<;>conv=>whnf
 refine CALL.aA [3] hC ?_ (hS:=by(conv=>whnf);exact⟨rfl,trivial⟩);rintro r O nx hQ;rcases z0i hQ with⟨h1,_⟩|⟨h1,c,hL,hb,hF,rfl,rfl,rfl⟩
 exact(h1 z1i).elim;rw[z0n,Zmr,Zlv]at hb;injection hb with hb;obtain rfl:[1,0]=c:=(Prod.mk.inj hb).2;rw[z0n,Zmy,ZmE];conv=>whnf
 repeat'(first|refine AU ?_|refine IW ?_ ?_<;>intro h<;>try omega)<;>conv=>whnf
 all_goals first|exact u0.ua h0 rfl rfl|exact absurd trivial ‹_›
open _root_.Go.Proofs.Tryz
theorem eu.got{a:LB}{l:List (LB×Int)}{v:Int}(hg:wL a l=some v){J:Type}{A:Nat->SV->J->Prop}{B:J->Prop}{j:J}(hs:∀i,A i (.int .i64 v) j):eu (Xs KT.ks (KT.enc a) 0 (qb l)) A B j:=by
 refine eu.A KT jC a l (fun i u hf=>?_) (fun hf=>?_)
 .have:=Kq hf;rw[hg]at this;injection this with this;subst this;exact hs _
 .have:=Uq hf;rw[hg]at this;cases this
theorem eu.not{a:LB}{l:List (LB×Int)}(hg:wL a l=none){J:Type}{A:Nat->SV->J->Prop}{B:J->Prop}{j:J}(hs:B j):eu (Xs KT.ks (KT.enc a) 0 (qb l)) A B j:=by
 refine eu.A KT jC a l (fun i u hf=>?_) (fun hf=>hs);have:=Kq hf;rw[hg]at this;cases this
theorem Zmb{a:LB}{v:Int}{l:List (LB×Int)}:wL a (wM a v l)=some v:=by rw[Kr,zf rfl]
def z0f(l:List Qd)(ps:List Pr):Bool:=decide ((ps.map Prod.fst).Nodup/\(ps.map Prod.snd).Nodup/\∀s∈ZQ l,s∉ps.map Prod.fst->s∉ps.map Prod.snd)
theorem Zmc{F:List LB}{i:Nat}(hi:i<F.length)(h:F[i]∈F.take i):¬F.Nodup:=fun hn=>by
 obtain⟨j,hj,he⟩:=yM.1 h;rw[zq]at hj;rw[xR]at he;have:=(x9 hn).1 he;omega
theorem Zmd{F:List LB}{i:Nat}(hi:i<F.length)(h:F[i]∉F.take i)(hn:(F.take i).Nodup):(F.take (i+1)).Nodup:=by
 rw[zH hi,List.nodup_append];refine⟨hn,by simp,fun a ha b hb e=>?_⟩;rw[zI.1 hb]at e;exact h (e▸ha)
theorem Zli(l z:List Qd)(lim:Option Nat)(ps zp:List Pr)(nL:Option Nat)(hl:JS l)(hz:(l++z).length<=1152921504606846976)(hp:(ps++zp).length<=1152921504606846976):
 vS prog uf 22 2 [.sl (.loc 0) 0 16 l.length lim, .sl (.loc 1) 0 2 ps.length nL] [] [(0, .rows 16 ((l++z).map Z3)),(1, .rows 2 ((ps++zp).map Yu))] (w6 2 (.bool (z0f l ps))):=by
 have kP:=Z9s l z lim hl hz;have hfl:(Zz l).length<=l.length*4:=FT _ Ut _;unfold JS at hl;rw[zh]at hp;obtain⟨P,hP⟩:∃P,P=ps.map Prod.fst:=⟨_,rfl⟩;obtain⟨W,hG⟩:∃W,W=ps.map Prod.snd:=⟨_,rfl⟩;have bX:P.length=ps.length:=by rw[hP,zy]
 have hGl:W.length=ps.length:=by rw[hG,zy]
 have hR:z0f l ps=decide (P.Nodup/\W.Nodup/\∀s∈ZQ l,s∉P->s∉W):=by rw[hP,hG];rfl
 generalize z0f l ps=R at hR⊢;refine vS.enter Z0 call22 func22 rfl 76 rfl rfl [.tmp 4] rfl ?_;intro w0 F η0 h0;conv=>whnf
 repeat'(first|refine AU ?_|refine IW ?_ ?_<;>intro h<;>try omega)<;>conv=>whnf
 refine vZ.kj Z0 [0,1,5,6] [] (X:=Nat) (fun i=>i<=ps.length/\(P.take i).Nodup/\(W.take i).Nodup) (fun i=>[(7, .int .i64 (i:Int))]) (fun i=>[(2, .mp (qb (Xd 1 (P.take i) []))),(3, .mp (qb (Xd 1 (W.take i) [])))]) 4 (fun i=>ps.length-i) 0 (by simp) ?_;conv=>whnf
 refine⟨by exact vU.kA h0 [2,3],?_⟩;rintro i ⟨hi,pF,hn2⟩;conv=>whnf
 by_cases hil:i<ps.length
 .have gP:∀{m:Nat},m=i->((ps++zp).map Yu)[m]?=some [.str (P[i]'(by omega)), .str (W[i]'(by omega))]:=fun{m} e=>by
   subst e hP hG;rw[z6,zn hil,z1 hil,yg,yg];rfl
  have s1:=Z9O (v:=1) (m:=[]) (show i<P.length by omega);have s2:=Z9O (v:=1) (m:=[]) (show i<W.length by omega);have f1:=LK 1 (P[i]'(by omega)) (P.take i) [];have f2:=LK 1 (W[i]'(by omega)) (W.take i) [];have d1:=Zmc (F:=P) (i:=i) (by omega);have d2:=Zmc (F:=W) (i:=i) (by omega);have n1:=fun h:P[i]'(by omega)∉P.take i=>Zmd (F:=P) (i:=i) (by omega) h pF;have n2:=fun h:W[i]'(by omega)∉W.take i=>Zmd (F:=W) (i:=i) (by omega) h hn2;generalize hk:P[i]'(by omega)=k at gP s1 f1 d1 n1;generalize hg:W[i]'(by omega)=g at gP s2 f2 d2 n2;have w1:IntKind.i64.wrap (0+1)=1:=by decide
  have w2:IntKind.i64.wrap (1+1)=2:=by decide
  have hR1:k∈P.take i->R=false:=fun h=>by rw[hR];exact y5 fun e=>d1 h e.1
  have hR2:g∈W.take i->R=false:=fun h=>by rw[hR];exact y5 fun e=>d2 h e.2.1
  have e1:wL k (Xd 1 (P.take i) [])=if k∈P.take i then some 1 else none:=f1
  have e2:wL g (Xd 1 (W.take i) [])=if g∈W.take i then some 1 else none:=f2
  clear f1 f2 d1 d2;generalize qy:Xd 1 (P.take i) []=m1 at s1 e1⊢;generalize hm2:Xd 1 (W.take i) []=m2 at s2 e2⊢;by_cases h1:k∈P.take i
  all_goals
   first|rw[zf h1]at e1|rw[z7 h1]at e1
   by_cases h2:g∈W.take i
   all_goals
    first|rw[zf h2]at e2|rw[z7 h2]at e2
    repeat'(first|refine wh.mk (fun _ _=>?_)|refine AD ?_|refine qz.mk ?_ ?_|refine GET.at (gP (by omega)) ?_|refine gZ.at (gP (by omega)) ?_|refine u6.mk ⟨KT.ok _,JR KT _ _⟩ ?_|(show u6 (JF _ _=true/\JP _ (jZ _ _ _ _)) _);simp only[B3,B4,w1,w2];refine u6.mk ⟨KT.ok _,JR KT _ _⟩ ?_|refine eu.got e1 (fun _=>?_)|refine eu.got e2 (fun _=>?_)|refine eu.not e1 ?_|refine eu.not e2 ?_|refine eu.got Zmb (fun _=>?_)|refine AU ?_|refine IW ?_ ?_<;>intro h<;>try omega)<;>conv=>whnf
    all_goals first
     |(exfalso;simp at h;done)
     |exact u0.ua h0 rfl (z8 SV.bool (hR1 h1).symm)
     |exact u0.ua h0 rfl (z8 SV.bool (hR2 h2).symm)
     |(refine⟨i+1,⟨by omega,n1 h1,n2 h2⟩,by omega,?_⟩;rw[s1,s2];(conv=>whnf);exact vU.kA h0 [2,3])
 have hie:i=ps.length:=by omega
 subst hie;rw[zg (by omega)]at pF hn2;rw[zg (show P.length<=ps.length by omega),zg (show W.length<=ps.length by omega)];have e1:=fun k=>LK 1 k P [];have e2:=fun k=>LK 1 k W [];generalize Xd 1 P []=m1 at e1⊢;generalize Xd 1 W []=m2 at e2⊢;repeat'(first|refine AU ?_|refine IW ?_ ?_<;>intro h<;>try omega)<;>conv=>whnf
 refine CALL.aA [0] (kP) ?_;rintro r O nx ⟨j,hj,rfl,rfl,rfl⟩;obtain⟨A,hA⟩:∃A,A=ZQ l:=⟨_,rfl⟩;have wK:wj Our.cmpL (Zz l)=A:=by rw[hA]
 rw[wK]at hj⊢;rw[<-hA]at hR;conv=>whnf
 repeat'(first|refine AU ?_|refine IW ?_ ?_<;>intro h<;>try omega)<;>conv=>whnf
 refine vZ.kj Z0 [5,6,8] [] (X:=Nat) (fun i=>i<=A.length/\∀s∈A.take i,s∉P->s∉W) (fun i=>[(9, .int .i64 (i:Int))]) (fun i=>[(2, .mp (qb m1)),(3, .mp (qb m2)),(4, .rows 1 ((A++List.replicate j []).map Ze))]) 5 (fun i=>A.length-i) 0 (by simp) ?_;conv=>whnf
 refine⟨by exact vU.kA h0 [2,3,4],?_⟩;rintro i ⟨hi,hs⟩;conv=>whnf
 by_cases hil:i<A.length
 .have gA:∀{m:Nat},m=i->((A++List.replicate j []).map Ze)[m]?=some (Ze A[i]):=fun{m} e=>by rw[e,z6,zn hil,z1 hil];rfl
  have q1:=e1 A[i];have q2:=e2 A[i];have nu:A[i]∉P->A[i]∈W->R=false:=fun h1 h2=>by rw[hR];exact y5 fun e=>e.2.2 _ (zk hil) h1 h2
  have jR:(A[i]∉P->A[i]∉W)->∀s∈A.take (i+1),s∉P->s∉W:=fun h s hs1=>by
   rw[zH hil]at hs1;rcases zQ.1 hs1 with h2|h2
   exact hs s h2;rw[zI.1 h2];exact h
  generalize A[i]=k at gA q1 q2 nu jR;have q3:wL k m1=if k∈P then some 1 else none:=q1
  have q4:wL k m2=if k∈W then some 1 else none:=q2
  clear q1 q2;by_cases h1:k∈P
  all_goals
   first|rw[zf h1]at q3|rw[z7 h1]at q3
   by_cases h2:k∈W
   all_goals
    first|rw[zf h2]at q4|rw[z7 h2]at q4
    repeat'(first|refine wh.mk (fun _ _=>?_)|refine AD ?_|refine qz.mk ?_ ?_|refine GET.at (gA (by omega)) ?_|refine gZ.at (gA (by omega)) ?_|refine u6.mk ⟨KT.ok _,JR KT _ _⟩ ?_|refine eu.got q3 (fun _=>?_)|refine eu.got q4 (fun _=>?_)|refine eu.not q3 ?_|refine eu.not q4 ?_|refine AU ?_|refine IW ?_ ?_<;>intro h<;>try omega)<;>conv=>whnf
    all_goals first
     |(exfalso;simp at h;done)
     |exact u0.ua h0 rfl (z8 SV.bool (nu h1 h2).symm)
     |(refine⟨i+1,⟨by omega,jR (by first|exact fun e=>(e h1).elim|exact fun _=>h2)⟩,by omega,?_⟩;(conv=>whnf);exact vU.kA h0 [2,3,4])
     |trace_state
 have hie:i=A.length:=by omega
 subst hie;rw[zg (zo _)]at hs;rw[yq ⟨pF,hn2,hs⟩]at hR;subst hR;repeat'(first|refine AU ?_|refine IW ?_ ?_<;>intro h<;>try omega)<;>conv=>whnf
 exact u0.ua h0 rfl rfl
open _root_.Go.Proofs.Tryz
theorem ZmF{l:List Qd}(d:z01 l):tJ l:=fun q hq=>by
 obtain⟨t1,t2,t3,t4⟩:=ZmJ (d.ck q hq);unfold cU at t1 t2 t3 t4;refine⟨?_,?_,?_,?_⟩<;>(unfold fu;omega)
theorem ZmN{l:List Qd}(h:kJ l=0):(YL l).2=0:=by
 unfold kJ at h;split at h
 omega;exact h
theorem ZlD(X z:List Qd)(lA lB:Option Nat)(h:(X++z).length<=1152921504606846976):vS prog uf 15 2 [.sl (.loc 0) 0 16 X.length lA, .sl (.loc 1) 0 16 X.length lB] [] [(0, .rows 16 ((X++z).map Z3)),(1, .rows 16 (X.map Z3))] (w6 2 (.bool true)):=by
 have hh:=W0 (X++z) X 0 X.length 0 X.length lA lB (by simp) (by simp) h (by rw[zh]at h;omega);rwa [yq (by simp)]at hh
theorem Zlp:vS prog uf 15 0 [.val (.slice none 0 0), .val (.slice none 0 0)] [] [] (uN (.bool true)):=by
 refine vS.enter Z0 call15 func15 rfl 26 rfl rfl [.tmp 4] rfl ?_;intro w0 F η0 h0;conv=>whnf
 repeat'(first|refine AU ?_|refine IW ?_ ?_<;>intro h<;>try omega)<;>conv=>whnf
 refine vZ.once Z0 ?_;conv=>whnf
 repeat'(first|refine AU ?_|refine IW ?_ ?_<;>intro h<;>try omega)<;>conv=>whnf
 exact u0.value h0 rfl rfl
theorem Zme{ps:List Pr}{s:LB}(h:dM ps s=none):s∉ps.map Prod.fst:=fun hm=>by
 obtain⟨p,hp,rfl⟩:=yc.1 hm;unfold dM at h;rw[Option.map_eq_none_iff,List.find?_eq_none]at h;have:=h p hp;simp at this
def Zmf(ps:List Pr)(s:LB):LB:=(dM ps s).getD s
theorem ZmG{l:List Qd}{ps:List Pr}(dl:z01 l)(AN:z01 (wj ZP (l.map (oE ps))))(hb:z0f l ps=true):∃qs,Bij l (wj ZP (l.map (oE ps))) qs:=by
 unfold z0f at hb;rw[yw]at hb;obtain⟨b1,b2,b3⟩:=hb;obtain⟨qs,F1⟩:∃qs,qs=(ZQ l).map fun s=>(s,Zmf ps s):=⟨_,rfl⟩
 have hf:qs.map Prod.fst=ZQ l:=by
  rw[F1,xo];exact List.map_id _
 have hs:qs.map Prod.snd=(ZQ l).map (Zmf ps):=by
  rw[F1,xo];rfl
 have hto:∀s∈ZQ l,dM qs s=some (Zmf ps s):=fun s hs1=>Zl2 (by rw[hf];exact ZkQ l) (by rw[F1];exact yc.2 ⟨s,hs1,rfl⟩)
 have hn:∀t:Tm,(t.k=2->t.t∈ZQ l)->nX qs t=nX ps t:=fun t ht=>by
  by_cases hk:t.k=2
  .rw[ZkV hk (hto _ (ht hk))];unfold nX Zmf;rw[zf hk];cases e:dM ps t.t with
   |none=>rfl
   |some u=>rfl
  rw[ZkZ hk,ZkZ hk]
 have hm:l.map (oE ps)=l.map (oE qs):=yy fun q hq=>
  (Zlc (f:=nX qs) (g:=nX ps) fun t ht=>hn t fun hk=>ZkX hq ht hk).symm
 rw[hm]at AN⊢;refine⟨qs,Zm1 dl (.of_eq hf) ?_ fun u hu=>?_⟩
 .rw[hs];refine Zmp (ZkQ l) fun s hs1 t ht1 e=>?_
  have inj:∀{s t u:LB},(s,u)∈ps->(t,u)∈ps->s=t:=fun{s t u} h1 h2=>by
   obtain⟨i,hi,e1⟩:=yM.1 h1;obtain⟨j,hj,e2⟩:=yM.1 h2;have:(ps.map Prod.snd)[i]'(by simpa using hi)=(ps.map Prod.snd)[j]'(by simpa using hj):=by simp[e1,e2]
   have:=(x9 b2).1 this;subst this;rw[e1]at e2;exact(Prod.mk.inj e2).1
  unfold Zmf at e;cases e1:dM ps s with
  |none=>
   cases e2:dM ps t with
   |none=>rw[e1,e2]at e;exact e
   |some v=>
    rw[e1,e2]at e;exact(b3 s hs1 (Zme e1) (yc.2 ⟨_,ZkY e2,e.symm⟩)).elim
  |some u=>
   cases e2:dM ps t with
   |none=>
    rw[e1,e2]at e;exact(b3 t ht1 (Zme e2) (yc.2 ⟨_,ZkY e1,e⟩)).elim
   |some v=>
    rw[e1,e2]at e;have e:u=v:=e;subst e;exact inj (ZkY e1) (ZkY e2)
 .rw[hs]at hu;obtain⟨s,hs1,rfl⟩:=yc.1 hu;obtain⟨q,hq,t,ht,hk,rfl⟩:=HX hs1;have:=ZkX (l:=wj ZP (l.map (oE qs))) ((JI _ _).2 (yc.2 ⟨q,hq,rfl⟩)) (t:=nX qs t) (by rw[Zle];exact vB ht) (by rw[Zlt];exact hk);rw[ZkV hk (hto _ hs1)]at this;exact ZmD AN this
theorem ZmH(l:List Qd)(ps:List Pr):(wj ZP (l.map (oE ps))).length<=l.length:=by
 have:=Km (c:=ZP) (l.map (oE ps));rwa [zy]at this
theorem Zlq{ps:List Pr}(hp:∀p∈ps,p.1.length<=1152921504606846976/\p.2.length<=1152921504606846976){t:Tm}(h:fu t):fu (nX ps t):=by
 unfold nX;split
 .cases e:dM ps t.t with
  |none=>exact h
  |some u=>exact⟨(hp _ (ZkY e)).2,h.2⟩
 exact h
theorem ZmI{l:List Qd}{ps:List Pr}(hp:∀p∈ps,p.1.length<=1152921504606846976/\p.2.length<=1152921504606846976)(ql:tJ l):tJ (wj ZP (l.map (oE ps))):=fun q hq=>by
 obtain⟨q0,hq0,rfl⟩:=yc.1 ((JI _ _).1 hq);obtain⟨h1,h2,h3,h4⟩:=ql q0 hq0;exact⟨Zlq hp h1,Zlq hp h2,Zlq hp h3,Zlq hp h4⟩
theorem Zmn{l:List Qd}{n:Int}{c:List Int}(d:z01 l)(h0:z00 l n=0)(hL:wH (ZQ l) c)(hF:z07 l n=ZA (ZQ l) l c):z01 (ZA (ZQ l) l c)/\z00 (ZA (ZQ l) l c) n=0/\z07 (ZA (ZQ l) l c) n=ZA (ZQ l) l c:=by
 have h4:(ZQ l).length<=4096:=by
  unfold z00 at h0;rw[Zm7 d]at h0;by_cases e:4096< (ZQ l).length
  rw[zf e,zf (by decide)]at h0;cases h0;omega
 have hB:=Zmm d h4 hL;obtain⟨h1,h2⟩:=hB.can n;exact⟨hB.vb,h1.trans h0,(h2 h0).trans hF⟩
theorem Zmz{l:List Qd}{n:Int}(h:z00 l n=0):z01 l:=by
 refine Zms ?_;unfold z00 at h;split at h
 exact absurd h ‹_›
 .rename_i h1;exact ZmN (Decidable.byContradiction h1)
set_option maxHeartbeats 16000000 in
theorem ZlT(l:List Qd)(ps:List Pr)(n:Int)(lE: -9223372036854775808<=n/\n<=9223372036854775807)(hl:JS l)(ql:tJ l)(hp:ps.length<=1152921504606846976)(hps:∀p∈ps,p.1.length<=1152921504606846976/\p.2.length<=1152921504606846976):vS prog uf 6 2 [.sl (.loc 0) 0 16 l.length none, .sl (.loc 1) 0 2 ps.length none, .int .i64 n] [] [(0, .rows 16 (l.map Z3)),(1, .rows 2 (ps.map Yu))] (w6 2 (.bool true)):=by
 have hq:=hl;unfold JS at hq;have hC:=ZcL l [] none n lE hl ql (by simp;omega);have hR:=Zlx l [] none ps [] none hl (by simp;omega) (by simpa using hp);have tU:=ZlQ l [] hl ql;have hBj:=Zli l [] none ps [] none hl (by simp;omega) (by simpa using hp);rw[zP]at hC tU;rw[zP,zP]at hR hBj;have kL:=ZmH l ps;have AT:=ZmI hps ql;have hone:=fun(h1:(YL l).2=0) (h2:(YL (wj ZP (l.map (oE ps)))).2=0) h3=>ZmG (Zms h1) (Zms h2) h3;generalize wj ZP (l.map (oE ps))=m at kL AT hone hR;generalize hv1:(YL l).2=v1 at tU hone;have hVm:=fun j=>Z9M m (List.replicate j Kl) (some m.length) (by omega) AT;generalize Kx:(YL m).2=v2 at hVm hone;have hCm:=fun j (hj:m.length+j<=1152921504606846976)=>ZcL m (List.replicate j Kl) (some m.length) n lE (by unfold JS;omega) AT (by rw[zh,yK];exact hj);generalize hbB:z0f l ps=BE at hBj hone;refine vS.enter Z0 call6 func6 rfl 87 rfl rfl [.tmp 6] rfl ?_;intro w0 F η0 h0;conv=>whnf
 repeat'(first|refine CALL.value (ZlC) rfl rfl ?_|refine AU ?_|refine IW ?_ ?_<;>intro h<;>try omega)<;>conv=>whnf
 refine CALL.aA [0] (hC) ?_;rintro r O nx hQ;rcases z0i hQ with⟨h1,rfl,rfl,rfl⟩|⟨h1,c,hL,hb,hF,rfl,rfl,rfl⟩
 .conv=>whnf
  repeat'(first|refine AU ?_|refine IW ?_ ?_<;>intro h<;>try omega)<;>conv=>whnf
  refine CALL.aA [0,1] (hR) ?_;rintro r O nx ⟨j,hj,rfl,rfl,rfl⟩;conv=>whnf
  repeat'(first|refine AU ?_|refine IW ?_ ?_<;>intro h<;>try omega)<;>conv=>whnf
  refine CALL.aA [0] (tU) ?_;rintro r O nx ⟨rfl,rfl,rfl⟩;conv=>whnf
  repeat'(first|refine AU ?_|refine IW ?_ ?_<;>intro h<;>try omega)<;>conv=>whnf
  refine CALL.aA [2] (hVm j) ?_;rintro r O nx ⟨rfl,rfl,rfl⟩;conv=>whnf
  repeat'(first|refine AU ?_|refine IW ?_ ?_<;>intro h<;>try omega)<;>conv=>whnf
  all_goals first|exact u0.ua h0 rfl rfl|skip
  refine CALL.aA [0,1] (hBj) ?_;rintro r O nx ⟨rfl,rfl,rfl⟩;conv=>whnf
  cases BE
  .repeat'(first|refine AU ?_|refine IW ?_ ?_<;>intro h<;>try omega)<;>conv=>whnf
   all_goals exact u0.ua h0 rfl rfl
  obtain⟨qs,hB⟩:=hone (by omega) (by omega) rfl;obtain⟨k1,k2⟩:=hB.can n;repeat'(first|refine AU ?_|refine IW ?_ ?_<;>intro h<;>try omega)<;>conv=>whnf
  refine CALL.aA [2] (hCm j (by omega)) ?_;rintro r O nx hQ2;rcases z0i hQ2 with⟨g1,rfl,rfl,rfl⟩|⟨g1,d,gL,AS,gF,rfl,rfl,rfl⟩
  .rw[k1];conv=>whnf
   repeat'(first|refine CALL.value (Zlp) rfl rfl ?_|refine AU ?_|refine IW ?_ ?_<;>intro h<;>try omega)<;>conv=>whnf
   all_goals exact u0.ua h0 rfl rfl
  exact(h1 (k1▸g1)).elim
 have dl:=Zmz h1;obtain⟨AI,eA,fA⟩:=Zmn dl h1 hL hF;have hfl:=JX (ZQ l) l c;generalize ZA (ZQ l) l c=a at hF AI eA fA hfl⊢;have hCa:=ZcL a [] none n lE (by unfold JS;omega) (ZmF AI) (by simp;omega);have iq:=ZlD a [] none none (by rw[zP];omega);rw[zP,hfl]at hCa iq;conv=>whnf
 repeat'(first|refine AU ?_|refine IW ?_ ?_<;>intro h<;>try omega)<;>conv=>whnf
 refine CALL.aA [2] (hCa) ?_;rintro r O nx hQ2;rcases z0i hQ2 with⟨g1,_⟩|⟨g1,c2,gL,AS,gF,rfl,rfl,rfl⟩
 exact(g1 eA).elim;rw[<-gF,fA,hfl];conv=>whnf
 repeat'(first|refine AU ?_|refine IW ?_ ?_<;>intro h<;>try omega)<;>conv=>whnf
 refine CALL.aA [2,4] (iq) ?_;rintro r O nx ⟨rfl,rfl,rfl⟩;conv=>whnf
 repeat'(first|refine AU ?_|refine IW ?_ ?_<;>intro h<;>try omega)<;>conv=>whnf
 refine CALL.aA [0,1] (hR) ?_;rintro r O nx ⟨j,hj,rfl,rfl,rfl⟩;conv=>whnf
 repeat'(first|refine AU ?_|refine IW ?_ ?_<;>intro h<;>try omega)<;>conv=>whnf
 refine CALL.aA [0] (tU) ?_;rintro r O nx ⟨rfl,rfl,rfl⟩;conv=>whnf
 repeat'(first|refine AU ?_|refine IW ?_ ?_<;>intro h<;>try omega)<;>conv=>whnf
 refine CALL.aA [6] (hVm j) ?_;rintro r O nx ⟨rfl,rfl,rfl⟩;conv=>whnf
 repeat'(first|refine AU ?_|refine IW ?_ ?_<;>intro h<;>try omega)<;>conv=>whnf
 all_goals first|exact u0.ua h0 rfl rfl|skip
 refine CALL.aA [0,1] (hBj) ?_;rintro r O nx ⟨rfl,rfl,rfl⟩;conv=>whnf
 cases BE
 .repeat'(first|refine AU ?_|refine IW ?_ ?_<;>intro h<;>try omega)<;>conv=>whnf
  all_goals exact u0.ua h0 rfl rfl
 obtain⟨qs,hB⟩:=hone (by omega) (by omega) rfl;obtain⟨k1,k2⟩:=hB.can n;repeat'(first|refine AU ?_|refine IW ?_ ?_<;>intro h<;>try omega)<;>conv=>whnf
 refine CALL.aA [6] (hCm j (by omega)) ?_;rintro r O nx hQ2;rcases z0i hQ2 with⟨g1,rfl,rfl,rfl⟩|⟨g1,d,gL,AS,gF,rfl,rfl,rfl⟩
 exact(g1 (k1.trans h1)).elim;have Tp:=JX (ZQ m) m d
 have hml:m.length=l.length:=by
  have e:=gF;rw[k2 h1,hF]at e;rw[<-Tp,<-e,hfl]
 rw[<-gF,k2 h1,hF,hml];conv=>whnf
 repeat'(first|refine AU ?_|refine IW ?_ ?_<;>intro h<;>try omega)<;>conv=>whnf
 refine CALL.aA [2,7] (iq) ?_;rintro r O nx ⟨rfl,rfl,rfl⟩;conv=>whnf
 repeat'(first|refine AU ?_|refine IW ?_ ?_<;>intro h<;>try omega)<;>conv=>whnf
 all_goals exact u0.ua h0 rfl rfl
end Go.Proofs.YtlcbipfmodcedaaGreatDoor
namespace Go.Proofs.YtlcbipfmodcedaaGreatDoor
open Go.RowKit Go.Our Go.ChangeShapes Go.WideShapes Go.ChangeAt Go.Sx
open _root_.Go.Proofs.Tryz
section
variable {H:Type}{enc:TypeId×Value->H}{w:World}{base:Nat}{sp:Nat->Bool}{held:Bool}
abbrev dz(x:Pr):List Value:=[ja x.1,ja x.2]
def prD(x:Pr):DataW H:= .agg [.lit (.string x.1), .lit (.string x.2)]
theorem ZlK:prog.cellsOf 39=2:=by kernel_rfl
set_option maxRecDepth 100000 in
theorem ZmA{fuel:Nat}{cs:List Value}{x:DataW H×List MemPlace}(h:DataW.trod enc prog w base sp held fuel 39 cs=some x):
 ∃t:Pr,cs=dz t/\x=(prD t,[]):=by
 cases fuel with
 |zero=>simp[DataW.trod]at h
 |succ fuel=>
  simp only[DataW.trod,underlying39,ZlK]at h;split at h
  .rename_i hl
   match cs,hl with
   | [c0,c1],_=>
     simp only[vK,List.mapM_nil,ZfS,yN,vC,List.take_succ_cons,List.take_zero]at h;simp only[zC,Option.bind_eq_bind,vM,Option.pure_def,zi]at h;obtain⟨xs,⟨y0,h0,r1,⟨y1,h1,r2,rfl,rfl⟩,rfl⟩,hx⟩:=h;obtain⟨s1,hs1,rfl,w1⟩:=DataW.trod_string underlying9 h0;obtain⟨s2,hs2,rfl,w2⟩:=DataW.trod_string underlying9 h1;injection hs1 with hs1 _;injection hs2 with hs2 _;subst hs1 hs2;exact⟨(s1.data.toList,s2.data.toList),by show [_,_]=[ja _,ja _];rw[DH,DH],by rw[<-hx];rfl⟩
  cases h
theorem Zmg(K:Env)(q:Pr)(j:Nat)(sv:SV)(h:(Yu q)[j]?=some sv):∃u,(dz q)[j]?=some u/\u.oneCell'=true/\Den K sv u:=by
 have hlt:=(ze.1 h).1;have hl:(Yu q).length=2:=rfl;rw[hl]at hlt
 match j,hlt with
 |0,_|1,_=>injection h with h;subst h;exact⟨_,rfl,rfl,by simp only[Den]⟩
set_option maxRecDepth 100000 in
theorem Zmo{v:Value}{d:DataW H}{p:List MemPlace}{r:Reach}{b0:Nat}(ho:Value.okWide prog w r b0 33 v)(h:DataW.Trod enc prog w 0 (fun _=>true) true 33 v d p):
 ∃(l:List Pr) (en:Option wZ),qN w v 2 (l.map Yu) en/\((l=[]/\d= .nil)\/∃z:List Pr,d= .slice (l.map prD) (z.map prD)):=
 ZfQ dz prD Yu (by omega) (fun a=>⟨rfl,rfl⟩) Zmg underlying33 ZlK (fun fuel cs x hx=>ZmA hx) ho h
theorem ZlL:prog.bytesOf 39=32:=by kernel_rfl
theorem Zmh{l:List Pr}{d:DataW H}(hd:(l=[]/\d= .nil)\/∃z:List Pr,d= .slice (l.map prD) (z.map prD))(h:(d.weights prog 33).all (fun n=>decide (n<=reachBytes))=true):l.length*32<=140737488351232:=by
 rcases hd with⟨rfl,rfl⟩|⟨z,rfl⟩
 simp
 .simp only[DataW.weights,underlying33,ZlL,zy,List.all_cons,vF,zj,yw]at h;obtain⟨h1,h2,_⟩:=h;unfold reachBytes at h1;rw[xK]at h1;omega
end
open _root_.Go.Proofs.Tryz
section
variable {H:Type}
theorem ZmO{x:Pr}(h:((prD x:DataW H).weights prog 39).all (fun n=>decide (n<=reachBytes))=true):x.1.length<=1152921504606846976/\x.2.length<=1152921504606846976:=by
 simp only[prD,DataW.weights,underlying39,zG,yP,DataW.weightsEach,List.nil_append,zP,List.cons_append,List.all_cons,List.all_nil,zF,zj,yw]at h;unfold reachBytes at h;exact⟨by omega,by omega⟩
theorem Zmi{l:List Pr}{d:DataW H}(hd:(l=[]/\d= .nil)\/∃z:List Pr,d= .slice (l.map prD) (z.map prD))(h:(d.weights prog 33).all (fun n=>decide (n<=reachBytes))=true):∀p∈l,p.1.length<=1152921504606846976/\p.2.length<=1152921504606846976:=by
 rcases hd with⟨rfl,rfl⟩|⟨z,rfl⟩
 simp
 .simp only[DataW.weights,underlying33,ZlL,zy,List.all_cons,vF,zj,yw]at h;obtain⟨h1,h2,_⟩:=h
  have hall:∀(l:List Pr),(DataW.weightsAll prog 39 (l.map (prD (H:=H)))).all (fun n=>decide (n<=reachBytes))=true->∀p∈l,p.1.length<=1152921504606846976/\p.2.length<=1152921504606846976:=by
   intro l
   induction l with
   |nil=>intro _ q hq;cases hq
   |cons a l ih=>
    intro h q hq;simp only[zG,DataW.weightsAll,vF,zj]at h;rcases zL.1 hq with rfl|hq
    exact ZmO (H:=H) h.1;exact ih h.2 q hq
  exact hall l h2
end
end Go.Proofs.YtlcbipfmodcedaaGreatDoor
