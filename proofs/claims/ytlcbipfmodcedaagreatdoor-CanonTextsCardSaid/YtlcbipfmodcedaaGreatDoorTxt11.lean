import Derived.Test.YtlcbipfmodcedaaGreatDoorTxt9
import Derived.Test.YtlcbipfmodcedaaGreatDoorTxt10
set_option linter.unusedVariables false
set_option linter.unusedSimpArgs false
set_option maxRecDepth 20000
set_option maxHeartbeats 8000000
namespace Go.Proofs.YtlcbipfmodcedaaGreatDoor
open Go.Sx Go.Our Go.Lib
open _root_.Go.Proofs.Tryz
theorem ZaO(b:List UInt8)(hb:b.length<=140737488355328):uX prog wD 93 1 [.sl (.loc 0) 0 1 b.length none] [] [(0, .rows 1 (b.map Sx.bytesRow))] (WI 1 b):=by
 refine uX.enter Z0 call93 func93 rfl 8 rfl rfl [.tmp 2] rfl ?_;intro w0 F η0 h0;conv=>whnf
 refine sU.mk (fun h=>?_) ?_
 .obtain rfl:b=[]:=zJ.1 h;conv=>whnf
  skip
  refine wh.nil 1 ?_;exact wh.rows h0 1 1 0 rfl rfl rfl rfl ⟨rfl,rfl,rfl⟩
 .conv=>whnf
  repeat'(first|refine wm.mk (Zm 1 rfl rfl (by simp) (by simp) (by omega)) ?_)<;>conv=>whnf
  rw[List.take_zero,List.nil_append,Ay,zy];exact wh.rows h0 2 1 b.length rfl rfl rfl (Zf _) ⟨rfl,rfl,rfl⟩
theorem Zds(b:List UInt8):List.map iy (b.map Sx.bytesRow)=b:=by
 exact Q7 b
def PrQ(l:List Qd)(most:Int):SV->w9->Nat->Prop:=fun r O nx=>
 ((ZK l).2≠0/\r= .wM [.val (.slice none 0 0), .int .i64 (ZK l).2]/\O=[]/\nx=1)\/
 ((ZK l).2=0/\most< ((Zq l).length:Int)/\r= .wM [.val (.slice none 0 0), .int .i64 1]/\O=[]/\nx=1)\/
 ((ZK l).2=0/\((Zq l).length:Int)<=most/\r= .wM [.sl (.loc 1) 0 1 (Zq l).length none, .int .i64 0]/\O=[(1, .rows 1 ((Zq l).map Sx.bytesRow))]/\nx=2)
theorem Z9j(l z:List Qd)(lim:Option Nat)(most:Int)(hl:Xs l)(ql:nC l)(hw:wL l<=536870912)(hz:(l++z).length<=1152921504606846976):
 uX prog wD 49 1 [.sl (.loc 0) 0 16 l.length lim, .int .i64 most] [] [(0, .rows 16 ((l++z).map Z4))] (PrQ l most):=by
 have hv:=SF l z lim (by unfold Xs at hl;omega) ql;have Fo:=Et l;have nV:(Zq (l.take 0)).length=0:=by simp[Zq]
 have hp1:(Zq []).length=0:=rfl;unfold Xs at hl;refine uX.enter Z0 call49 func49 rfl 40 rfl rfl [.tmp 4, .tmp 5] rfl ?_;intro w0 F η0 h0;conv=>whnf
 skip
 refine CALL.aA [0] (hv) ?_;rintro r O nx ⟨rfl,rfl,rfl⟩;conv=>whnf
 repeat'(first|refine IW ?_ ?_<;>intro h<;>try omega)<;>conv=>whnf
 exact wh.aA h0 [] (.wM [.val (.slice none 0 0), .int .i64 (ZK l).2]) [] (.inl ⟨h,rfl,rfl,rfl⟩);have kH:(ZK l).2=0:=by omega
 refine wj.nil 8 1 rfl ?_;refine wj.jD Z0 [1,19,20] [] (X:=Nat) (fun i=>i<=l.length/\(0<i->((Zq (l.take i)).length:Int)<=most)) (fun i=>[(21, .int .i64 (i:Int)),(8, .sl (.loc 1) 0 1 (Zq (l.take i)).length none)]) (fun i=>[(1, .rows 1 ((Zq (l.take i)).map Sx.bytesRow))]) 2 (fun i=>l.length-i) 0 (by simp) ?_;conv=>whnf
 refine⟨by exact w5.kA h0 [1],?_⟩;rintro i ⟨hi,hb⟩;have hpre:=Ws l i;conv=>whnf
 by_cases hil:i<l.length
 .have hg:∀{m:Nat},m=i->((l++z).map Z4)[m]?=some (Z4 l[i]):=fun{m} e=>by rw[e,z6,zn hil,z1 hil];rfl
  have hq:=ql _ (zm hil);have hnext:=BW hil;have lD:=Ws l (i+1);generalize l[i]=q at hg hq hnext;have aq:=BV q;have Qw:=SD q hq;repeat'(first|refine CALL.value (Qw) rfl rfl ?_|refine GET.at (hg (by omega)) ?_|refine AU ?_|refine IW ?_ ?_<;>intro h<;>try omega)<;>conv=>whnf
  .refine wh.aA h0 [] (.wM [.val (.slice none 0 0), .int .i64 1]) [] (.inr (.inl ⟨kH,?_,rfl,rfl,rfl⟩));rw[hnext,zg,zg]at lD;simp at lD;omega
  have hnl:(Zq (l.take (i+1))).length=(Zq (l.take i)).length+(Ui q).length+1:=by rw[hnext,zg,zg];rfl
  have hrow:List.take ((Zq (List.take i l)).length+(Ui q).length) (List.take (Zq (List.take i l)).length (List.map Sx.bytesRow (Zq (List.take i l)))++List.map Sx.bytesRow (Ui q))++List.take 1 (List.drop 0 [[Yy (Value.int IntKind.u8 10)]])=(Zq (l.take (i+1))).map Sx.bytesRow:=by
   rw[hnext,yj,yj,zi (by simp),zi (by simp)]
   rfl
  refine⟨i+1,⟨by omega,fun _=>by omega⟩,by omega,?_⟩;rw[hrow,<-hnl];conv=>whnf
  exact w5.kA h0 [5]
 have hie:i=l.length:=by omega
 subst hie;rw[zX]at*;repeat'(first|refine IW ?_ ?_<;>intro h<;>try omega)<;>conv=>whnf
 refine wh.aA h0 [] (.wM [.val (.slice none 0 0), .int .i64 1]) [] (.inr (.inl ⟨kH,by omega,rfl,rfl,rfl⟩))
 have hall:((Zq l).length:Int)<=most:=by
  rcases xl l.length with e|e
  .have:l=[]:=zJ.1 e;rw[this];omega
  exact hb e
 refine CALL.aA [1] (ZaO (Zq l) (by omega)) ?_;rintro r O nx ⟨rfl,rfl,rfl⟩;conv=>whnf
 skip
 exact wh.aA h0 [2] (.wM [.sl (.loc 1) 0 1 (Zq l).length none, .int .i64 0]) [(1, .rows 1 ((Zq l).map Sx.bytesRow))] (.inr (.inr ⟨kH,hall,rfl,rfl,rfl⟩))
def EJ(l:List Qd)(most:Int):SV:=if(ZK l).2≠0 then .wM [.str [], .int .i64 (ZK l).2]else if most< ((Zq l).length:Int)then .wM [.str [], .int .i64 1]else .wM [.str (Zq l), .int .i64 0]
theorem Z7l(l z:List Qd)(lim:Option Nat)(most:Int)(hl:Xs l)(ql:nC l)(hw:wL l<=536870912)(hz:(l++z).length<=1152921504606846976):
 uX prog wD 50 1 [.sl (.loc 0) 0 16 l.length lim, .int .i64 most] [] [(0, .rows 16 ((l++z).map Z4))] (qE 1 (EJ l most)):=by
 have hv:=SG l z lim (by unfold Xs at hl;omega) ql;have Fo:=Et l;have nV:(Zq (l.take 0)).length=0:=by simp[Zq]
 have hp1:(Zq []).length=0:=rfl;unfold Xs at hl;have hR:EJ l most=if(ZK l).2≠0 then .wM [.str [], .int .i64 (ZK l).2]else if most< ((Zq l).length:Int)then .wM [.str [], .int .i64 1]else .wM [.str (Zq l), .int .i64 0]:=rfl
 generalize EJ l most=R at hR⊢;have jA:=fun h=>Wv (l:=l) h;refine uX.enter Z0 call50 func50 rfl 46 rfl rfl [.tmp 4, .tmp 5] rfl ?_;intro w0 F η0 h0;conv=>whnf
 skip
 refine CALL.aA [0] (hv) ?_;rintro r O nx ⟨rfl,rfl,rfl⟩;conv=>whnf
 repeat'(first|refine IW ?_ ?_<;>intro h<;>try omega)<;>conv=>whnf
 .rw[zh h]at hR;subst hR;exact wh.wC h0 rfl rfl
 have kH:(ZK l).2=0:=by omega
 rw[z7 (by omega)]at hR;have jA:=jA kH;refine wj.nil 8 1 rfl ?_;refine wj.jD Z0 [0,1] [] (X:=Nat) (fun i=>i<=l.length) (fun i=>[(9, .int .i64 (i:Int)),(8, .sl (.loc 1) 0 1 (Zq (l.take i)).length none)]) (fun i=>[(1, .rows 1 ((Zq (l.take i)).map Sx.bytesRow))]) 2 (fun i=>l.length-i) 0 (by omega) ?_;conv=>whnf
 refine⟨by exact w5.kA h0 [1],?_⟩;intro i hi;have hpre:=Ws l i;conv=>whnf
 by_cases hil:i<l.length
 .have hg:∀{m:Nat},m=i->((l++z).map Z4)[m]?=some (Z4 l[i]):=fun{m} e=>by rw[e,z6,zn hil,z1 hil];rfl
  have hq:=ql _ (zm hil);have hc:=jA _ (zm hil);have hnext:=BW hil;have lD:=Ws l (i+1);generalize l[i]=q at hg hq hc hnext;have aq:=BV q;have Qw:=Z9a q hq;rw[zh hc]at Qw;repeat'(first|refine CALL.value (Qw) rfl rfl ?_|refine GET.at (hg (by omega)) ?_|refine wm.mk (Zm 1 rfl rfl (by simp) (by simp) (by omega)) ?_|refine AU ?_|refine IW ?_ ?_<;>intro h<;>try omega)<;>conv=>whnf
  have hnl:(Zq (l.take (i+1))).length=(Zq (l.take i)).length+(Ui q).length+1:=by rw[hnext,zg,zg];rfl
  have hrow:List.take ((Zq (List.take i l)).length+(Ui q).length) (List.take (Zq (List.take i l)).length (List.map Sx.bytesRow (Zq (List.take i l)))++List.map Sx.bytesRow (Ui q))++List.take 1 (List.drop 0 [[Yy (Value.int IntKind.u8 10)]])=(Zq (l.take (i+1))).map Sx.bytesRow:=by
   rw[hnext,yj,yj,zi (by simp),zi (by simp)]
   rfl
  refine⟨i+1,by omega,by omega,?_⟩;rw[hrow,<-hnl];conv=>whnf
  exact w5.kA h0 [4]
 have hie:i=l.length:=by omega
 subst hie;rw[zX]at*;repeat'(first|refine IW ?_ ?_<;>intro h<;>try omega)<;>conv=>whnf
 .rw[zh (by omega)]at hR;subst hR;exact wh.wC h0 rfl rfl
 .rw[z7 (by omega)]at hR;subst hR;rw[Ay];refine wm.mk ⟨by simp,_,rfl⟩ ?_;rw[Zds];conv=>whnf
  exact wh.wC h0 rfl rfl
