/- Part 25: RIsoFails, RIsoRest. Conditions: as each part says. -/
import Derived.Test.YtbfbokdccdagkaaGreatDoorFnd21
import Derived.Test.YtbfbokdccdagkaaGreatDoorFnd24
set_option linter.unusedVariables false
set_option linter.unusedSimpArgs false
set_option maxRecDepth 20000
set_option maxHeartbeats 8000000
namespace Go.Proofs.YtbfbokdccdagkaaGreatDoor
open Go.Sx Go.Our
open Tryz
def Z7S:Plan:=(Zv [(0,1),(1,1),(2,1),(4,1),(5,1),(6,1),(3,2),(7,2),(8,1),(9,1),(10,1),(11,1),(12,2),(13,1)])
def Z1B:Plan:=(Zv [(0,1),(1,1),(2,1),(4,1),(5,1),(6,1),(3,2),(7,2),(8,3),(9,1),(10,1),(11,1),(12,1),(13,1)])
def Z1C:Plan:=(Zv [(0,1),(1,1),(2,1),(4,1),(6,1),(8,1),(10,1),(3,2),(5,2),(7,2),(9,2),(11,2),(12,1),(13,3),(14,1),(15,1),(16,1),(17,1),(18,1)])
def Zjl(ps:List Pr)(q:Qd):List Tm:=(ZG q).map (renT ps)
def renK(ps:List Pr)(q:Qd)(k:Nat):List Tm:=(Zjl ps q).take k++(ZG q).drop k
theorem Zam{ps:List Pr}{q:Qd}{k:Nat}(hk:k<4):(renK ps q k)[k]?=some ((ZG q)[k]'hk):=by
 match k,hk with
 |0,_=>rfl
 |1,_=>rfl
 |2,_=>rfl
 |3,_=>rfl
theorem Z7T{ps:List Pr}{q:Qd}{k:Nat}(hk:k<4):renK ps q (k+1)=(renK ps q k).set k (renT ps ((ZG q)[k]'hk)):=by
 match k,hk with
 |0,_=>rfl
 |1,_=>rfl
 |2,_=>rfl
 |3,_=>rfl
theorem ZdZ{ps:List Pr}{q:Qd}{k:Nat}(hk:k<4)(h:¬((ZG q)[k]'hk).k=2):renK ps q (k+1)=renK ps q k:=by
 rw[Z7T hk,show renT ps ((ZG q)[k]'hk)=(ZG q)[k]'hk from if_neg h];obtain⟨h1,h2⟩:=List.getElem?_eq_some_iff.1 (Zam (ps:=ps) (q:=q) hk);rw[<-h2];exact List.set_getElem_self h1
def inK(last:LB)(q:Qd)(k:Nat):Bool:=((ZG q).take k).any fun t=>decide (t.k=2)&&decide (t.t=last)
def allK(ps:List Pr)(q:Qd)(k:Nat):Bool:=((ZG q).take k).all fun t=>!decide (t.k=2)||(toOf ps t.t).isSome
theorem ZfD{last:LB}{q:Qd}{k:Nat}(hk:k<4):inK last q (k+1)=(inK last q k||(decide (((ZG q)[k]'hk).k=2)&&decide (((ZG q)[k]'hk).t=last))):=by
 unfold inK;rw[List.take_succ_eq_append_getElem hk,List.any_append];simp
theorem Ze0{ps:List Pr}{q:Qd}{k:Nat}(hk:k<4):allK ps q (k+1)=(allK ps q k&& (!decide (((ZG q)[k]'hk).k=2)||(toOf ps ((ZG q)[k]'hk).t).isSome)):=by
 unfold allK;rw[List.take_succ_eq_append_getElem hk,List.all_append];simp
theorem Z97(ps:List Pr)(last:LB)(b:List Qd)(q:Qd):Z3Z ps last b q=(inK last q 4&&allK ps q 4&&!decide (renQ ps q∈b)):=rfl
theorem Z98(a b:List Qd)(la lb:Option Nat)(ps zp:List Pr)(last:LB)(left:Int)(ov:Bool)(c d:SV)(hl:∃p,ps.getLast?=some p/\p.1=last)(ha:a.length<=1048576)(hb:b.length<=1048576)(hr:Rise Ju b)(hp:(ps++zp).length<=67108864):
 Does prog tab 84 5 [.ptr (.loc 0) 0 0 0] [] [(0, .box [.sl (.loc 1) 0 16 a.length la, .sl (.loc 2) 0 16 b.length lb,c,d, .sl (.loc 4) 0 2 ps.length none, .int .i64 left, .bool ov]),(1, .rows 16 (a.map Zj)),(2, .rows 16 (b.map Zj)),(4, .rows 2 ((ps++zp).map YA))] (ValK 5 (.bool (a.any (Z3Z ps last b)))):=by
 obtain⟨p0,hp0,hpl⟩:=hl;have hpl0:0<ps.length:=by cases ps with|nil=>simp at hp0|cons=>simp
 have hpp:(ps++zp).length=ps.length+zp.length:=List.length_append;have hgl:((ps++zp).map YA)[ps.length-1]?=some (YA p0):=by rw[List.getElem?_map,List.getElem?_append_left (by omega),<-List.getLast?_eq_getElem?,hp0];rfl
 have hwl:IntKind.i64.wrap ((ps.length:Int)-1)=((ps.length-1:Nat):Int):=by rw[Z9 (by omega) (by omega)];omega
 refine Does.enter Z1 call84 func84 rfl 106 rfl rfl [.tmp 2] rfl ?_;intro w0 F η0 h0;conv=>whnf
 repeat'((first|(show DRAWN _ _ _ _ _ _ _;first|refine DRAWN.of (id:=1) Z1 mixed Z7S (by kernel_rfl) ?_)|refine ADD.mk (fun _ _=>?_)|refine AD ?_|refine FORK.mk ?_ ?_|(refine GET.at (row:=YA p0) (by rw[hwl,Nat.zero_add,Int.toNat_natCast];exact hgl) ?_;conv=>whnf)|refine AU ?_|(refine IW ?_ ?_<;>intro h<;>try(exfalso;omega)))<;>conv=>whnf)
 subst hpl;refine LOOP.gok Z1 [0,3] [] (X:=Nat) (fun j=>j<=a.length/\∀q∈a.take j,Z3Z ps p0.1 b q=false) (fun j=>[(4, .int .i64 (j:Int))]) (fun j=>[]) 5 (fun j=>a.length-j) 0 ⟨by omega,by simp⟩ ?_;conv=>whnf
 refine⟨by exact GOES.cA h0,?_⟩;rintro j ⟨hj,hn⟩;conv=>whnf
 refine IF.mk (fun h=>?_) (fun h=>?_)
 ·have hlt:j<a.length:=by simp at h;omega
  have hgq:(a.map Zj)[j]?=some (Zj a[j]):=by rw[List.getElem?_map,List.getElem?_eq_getElem hlt];rfl
  have next:Z3Z ps p0.1 b a[j]=false->∀q∈a.take (j+1),Z3Z ps p0.1 b q=false:=fun hf q hq=>by
   rw[List.take_succ_eq_append_getElem hlt]at hq;rcases List.mem_append.1 hq with hq|hq
   ·exact hn q hq
   ·rw[List.mem_singleton.1 hq];exact hf
  have hend:Z3Z ps p0.1 b a[j]=true->a.any (Z3Z ps p0.1 b)=true:=fun hf=>List.any_eq_true.2 ⟨_,List.getElem_mem hlt,hf⟩;generalize a[j]=q at hgq next hend;conv=>whnf
  repeat'((first|refine CALL.value (W8 q) rfl rfl ?_|(refine GET.at (row:=Zj q) (by rw[Int.toNat_natCast,Nat.zero_add];exact hgq) ?_;conv=>whnf)|refine AU ?_|(refine IW ?_ ?_<;>intro h<;>try(exfalso;omega)))<;>conv=>whnf)
  refine LOOP.gok Z1 [0,3,4,5] [] (X:=Nat) (fun k=>k<=4) (fun k=>[(8, .int .i64 (k:Int)),(6, .bool (inK p0.1 q k)),(7, .bool (allK ps q k))]) (fun k=>[(5, .rows 4 ((renK ps q k).map Zu))]) 6 (fun k=>4-k) 0 (by omega) ?_;conv=>whnf
  refine⟨by exact GOES.cA h0,?_⟩;intro k hk;conv=>whnf
  refine IF.mk (fun h1=>?_) (fun h1=>?_)
  ·have hk4:k<4:=by simp at h1;omega
   have hgt:((renK ps q k).map Zu)[k]?=some (Zu ((ZG q)[k]'hk4)):=by rw[List.getElem?_map,Zam hk4];rfl
   have hin:=ZfD (last:=p0.1) (q:=q) hk4;have hall:=Ze0 (ps:=ps) (q:=q) hk4;have hsame:=ZdZ (ps:=ps) (q:=q) hk4;have hset:=Z7T (ps:=ps) (q:=q) hk4;have hpt:=Z7R ps zp ((ZG q)[k]'hk4).t none (by omega);generalize(ZG q)[k]'hk4=t at hgt hin hall hsame hset hpt;conv=>whnf
   repeat'((first|(refine GET.at (row:=Zu t) (by rw[Int.toNat_natCast];exact hgt) ?_;conv=>whnf)|refine AU ?_|(refine IW ?_ ?_<;>intro h<;>try(exfalso;omega)))<;>conv=>whnf)
   ·refine⟨k+1,by omega,by omega,?_⟩;rw[hin,hall,hsame h,decide_eq_false h];simp only[Bool.false_and,Bool.or_false,Bool.not_false,Bool.true_or,Bool.and_true];conv=>whnf
    exact GOES.cA h0
   ·have e6:inK p0.1 q (k+1)=(bif inK p0.1 q k then true else t.t==p0.1):=by rw[hin,decide_eq_true h];cases inK p0.1 q k<;>simp[Bool.beq_eq_decide_eq]
    have e7:allK ps q (k+1)=(bif allK ps q k then(toOf ps t.t).isSome else false):=by rw[hall,decide_eq_true h];cases allK ps q k<;>simp
    repeat'((first|(show DRAWN _ _ _ _ _ _ _;first|refine DRAWN.of (id:=13) Z1 mixed Z1B (by kernel_rfl) ?_)|refine ADD.mk (fun _ _=>?_)|refine AD ?_|refine FORK.mk ?_ ?_|(refine GET.at (row:=Zu t) (by rw[Int.toNat_natCast];exact hgt) ?_;conv=>whnf)|(refine⟨⟨Zu t,fun _=>by rw[Int.toNat_natCast];exact hgt,?_⟩⟩;conv=>whnf)|refine AU ?_|(refine IW ?_ ?_<;>intro h<;>try(exfalso;omega)))<;>conv=>whnf)
    refine CALL.aA [4] (hpt) ?_;rintro r O nx ⟨rfl,rfl,rfl⟩;conv=>whnf
    repeat'((first|(show DRAWN _ _ _ _ _ _ _;first|refine DRAWN.of (id:=13) Z1 mixed Z1B (by kernel_rfl) ?_)|refine ADD.mk (fun _ _=>?_)|refine AD ?_|refine FORK.mk ?_ ?_|(refine GET.at (row:=Zu t) (by rw[Int.toNat_natCast];exact hgt) ?_;conv=>whnf)|(refine⟨⟨Zu t,fun _=>by rw[Int.toNat_natCast];exact hgt,?_⟩⟩;conv=>whnf)|refine AU ?_|(refine IW ?_ ?_<;>intro h<;>try(exfalso;omega)))<;>conv=>whnf)
    have hst:((renK ps q k).map Zu).set (k:Int).toNat [.int .i64 t.k, .str ((toOf ps t.t).getD []), .str t.y, .str t.l]=(renK ps q (k+1)).map Zu:=by
     rw[hset,List.map_set,Int.toNat_natCast];congr 1;unfold renT;rw[if_pos h];rfl
    rw[hst];refine⟨k+1,by omega,by omega,?_⟩;rw[e6,e7];conv=>whnf
    exact GOES.cA h0
  ·have hke:k=4:=by simp at h1;omega
   subst hke;conv=>whnf
   repeat'((first|refine AU ?_|(refine IW ?_ ?_<;>intro h<;>try(exfalso;omega)))<;>conv=>whnf)
   ·refine⟨j+1,⟨by omega,next ?_⟩,by omega,?_⟩
    ·rw[Z97];rcases h with h|h<;>rw[h]<;>simp
    conv=>whnf
    exact GOES.cA h0
   ·have hfd:=Z8w b [] (renQ ps q) lb (by rw[List.append_nil];omega);rw[List.append_nil]at hfd;repeat'((first|(show DRAWN _ _ _ _ _ _ _;first|refine DRAWN.of (id:=17) Z1 mixed Z1C (by kernel_rfl) ?_)|refine ADD.mk (fun _ _=>?_)|refine AD ?_|refine FORK.mk ?_ ?_|(refine GET.at (row:=Zu (renT ps q.s)) rfl ?_;conv=>whnf)|(refine GET.at (row:=Zu (renT ps q.p)) rfl ?_;conv=>whnf)|(refine GET.at (row:=Zu (renT ps q.o)) rfl ?_;conv=>whnf)|(refine GET.at (row:=Zu (renT ps q.g)) rfl ?_;conv=>whnf)|refine AU ?_|(refine IW ?_ ?_<;>intro h<;>try(exfalso;omega)))<;>conv=>whnf)
    refine CALL.aA [2] (hfd) ?_;rintro r O nx ⟨pl,bb,hbb,rfl,rfl,rfl⟩;have hbb2:bb=decide (renQ ps q∈b):=(hbb hr).2.trans (ZcA triQ hr _);subst hbb2;conv=>whnf
    repeat'((first|(show DRAWN _ _ _ _ _ _ _;first|refine DRAWN.of (id:=17) Z1 mixed Z1C (by kernel_rfl) ?_)|refine ADD.mk (fun _ _=>?_)|refine AD ?_|refine FORK.mk ?_ ?_|refine AU ?_|(refine IW ?_ ?_<;>intro h<;>try(exfalso;omega)))<;>conv=>whnf)
    ·refine FIN.valueK h0 rfl (congrArg SV.bool (hend ?_).symm);rw[Z97, ‹inK p0.1 q 4=true/\allK ps q 4=true›.1, ‹inK p0.1 q 4=true/\allK ps q 4=true›.2];simpa using h
    ·refine⟨j+1,⟨by omega,next ?_⟩,by omega,?_⟩
     ·rw[Z97];simp[h]
     conv=>whnf
     exact GOES.cA h0
 ·have hje:j=a.length:=by simp at h;omega
  subst hje;rw[List.take_length]at hn;conv=>whnf
  repeat'((first|refine AU ?_|(refine IW ?_ ?_<;>intro h<;>try(exfalso;omega)))<;>conv=>whnf)
  refine FIN.valueK h0 rfl (congrArg SV.bool ?_);rw[eq_comm,List.any_eq_false];intro q hq;rw[hn q hq];simp
end Go.Proofs.YtbfbokdccdagkaaGreatDoor
namespace Go.Proofs.YtbfbokdccdagkaaGreatDoor
open Go.Sx Go.Our
open Tryz
def Z41:Plan:=(Zv [(0,1),(1,1),(2,1),(4,1),(8,1),(9,1),(10,1),(12,1),(3,2),(5,1),(6,1),(7,2),(11,2),(13,1),(14,1),(15,2),(16,1),(17,1),(18,1),(19,1),(20,1),(21,1),(23,1),(22,2),(24,1),(25,1),(26,2),(27,3),(28,1)])
def Z99:Plan:=(Zv [(0,1),(1,1),(2,1),(3,1),(5,1),(6,1),(7,1),(9,1),(13,1),(14,1),(15,1),(17,1),(4,2),(8,2),(10,1),(11,1),(12,2),(16,2),(18,1),(19,1),(20,2),(21,1),(22,3),(23,0),(24,1),(25,1),(26,0)])
def rsBx(c la lb n np:Nat)(left:Int)(ov:Bool):Hp:= .box [.sl (.loc 1) 0 16 la none, .sl (.loc 2) 0 16 lb none, .sl (.loc 3) 0 3 n none, .sl (.loc 3) n 3 n none, .sl (.loc c) 0 2 np none, .int .i64 left, .bool ov]
structure RsOK(a b:List Qd)(N:List Nd)(C:List Int)(half:Nat):Prop where
 da:DsOK a
 db:DsOK b
 la:(Z0 a).length=half
 lb:(Z0 b).length=half
 n:N.length=2*half
 c:C.length=2*half
 lo:∀i (h:i<N.length) (h2:i< (Z0 a).length),N[i].lab=(Z0 a)[i]
 hi:∀i (h:half+i<N.length) (h2:i< (Z0 b).length),N[half+i].lab=(Z0 b)[i]
 cl:∀i (h:i<N.length) (h2:i<C.length),N[i].cls=C[i]
theorem Zbu(a b:List Qd)(N:List Nd)(C:List Int)(half:Nat)(hK:RsOK a b N C half):∀(d:Nat) (ys:List Nat) (e:List Pr) (left:Nat),ys.length+d=half->left<=65536->Ps half (okM C half) ys->ys.length+e.length<=half->
 Does prog tab 58 5 [.ptr (.loc 0) 0 0 0] [(0,rsBx 4 a.length b.length half ys.length left false),(4, .rows 2 ((prsM (Z0 a) (Z0 b) ys++e).map YA))] [(1, .rows 16 (a.map Zj)),(2, .rows 16 (b.map Zj)),(3, .rows 3 (N.map Yg))]
 (fun r O nx=>nx=6/\∃e':List Pr,match VU half (okM C half) (fitM (Z0 a++Z0 b) half b (ins2 a b)) d ys left with
   | .found zs m=>r= .bool true/\O=[(0,rsBx 5 a.length b.length half zs.length m false),(5, .rows 2 ((prsM (Z0 a) (Z0 b) zs++e').map YA))]/\zs.length+e'.length<=half
   | .none m=>r= .bool false/\O=[(0,rsBx 5 a.length b.length half ys.length m false),(5, .rows 2 ((prsM (Z0 a) (Z0 b) ys++e').map YA))]/\ys.length+e'.length<=half
   | .over=>r= .bool false/\(∃m:Nat,O=[(0,rsBx 5 a.length b.length half ys.length m true),(5, .rows 2 ((prsM (Z0 a) (Z0 b) ys++e').map YA))])/\ys.length+e'.length<=half):=by
 have hla:=YU hK.da;have hKl:=hK.la;have hKb:=hK.lb;have hKn:=hK.n;have hKc:=hK.c;intro d
 induction d with
 |zero=>
  intro ys e left hd hl hp he;refine Does.enter Z1 call58 func58 rfl 119 rfl rfl [.tmp 2] rfl ?_;intro w0 F η0 h0;conv=>whnf
  repeat'((first|refine AU ?_|(refine IW ?_ ?_<;>intro h<;>try(exfalso;omega)))<;>conv=>whnf)
  all_goals first|exact FIN.aA h0 [4] (.bool true) [(0,rsBx 5 a.length b.length half ys.length left false),(5, .rows 2 ((prsM (Z0 a) (Z0 b) ys++e).map YA))] ⟨rfl,e,rfl,rfl,he⟩|(exfalso;omega)
 |succ d ih=>
  intro ys e left hd hl hp he;obtain⟨R,hR⟩:∃R,R=VU half (okM C half) (fitM (Z0 a++Z0 b) half b (ins2 a b)) (d+1) ys left:=⟨_,rfl⟩;rw[<-hR];have hpyl:(prsM (Z0 a) (Z0 b) ys).length=ys.length:=Z92 (by omega);refine Does.enter Z1 call58 func58 rfl 119 rfl rfl [.tmp 2] rfl ?_;intro w0 F η0 h0;conv=>whnf
  repeat'((first|refine AU ?_|(refine IW ?_ ?_<;>intro h<;>try(exfalso;omega)))<;>conv=>whnf)
  refine LOOP.gok Z1 [0,3] [] (X:=Nat×Nat×List Pr×Bool) (fun x=>x.1<=half/\ys.length+x.2.2.1.length<=half/\(x.2.2.2=true->R= .over)/\(x.2.2.2=false->x.2.1<=left/\goY (okM C half ys.length) (fitM (Z0 a++Z0 b) half b (ins2 a b)) (VU half (okM C half) (fitM (Z0 a++Z0 b) half b (ins2 a b)) d) ys ((List.range half).drop x.1) x.2.1=R)) (fun x=>[(4, .int .i64 (x.1:Int))]) (fun x=>[(0,rsBx 5 a.length b.length half ys.length x.2.1 x.2.2.2),(5, .rows 2 ((prsM (Z0 a) (Z0 b) ys++x.2.2.1).map YA))]) 6 (fun x=>half-x.1) (0,left,e,false) ⟨by simp,he,by simp,fun _=>⟨Nat.le_refl _,by rw[hR];rfl⟩⟩ ?_;conv=>whnf
  refine⟨by exact GOES.kA h0 [4],?_⟩;rintro⟨k,lf,e1,ov⟩ ⟨hk,he1,hov,hg⟩;dsimp only at hk he1 hov hg⊢;cases ov with
  |true=>
   have hR2:=hov rfl;conv=>whnf
   repeat'((first|refine AU ?_|(refine IW ?_ ?_<;>intro h<;>try(exfalso;omega)))<;>conv=>whnf)
   rw[hR2];exact FIN.aA h0 [5] (.bool false) [(0,rsBx 5 a.length b.length half ys.length lf true),(5, .rows 2 ((prsM (Z0 a) (Z0 b) ys++e1).map YA))] ⟨rfl,e1,rfl,⟨lf,rfl⟩,he1⟩
  |false=>
   obtain⟨hlf,hg⟩:=hg rfl;clear hov;conv=>whnf
   repeat'((first|refine AU ?_|(refine IW ?_ ?_<;>intro h<;>try(exfalso;omega)))<;>conv=>whnf)
   ·have hkh:k<half:=by omega
    have hkb:k< (Z0 b).length:=by omega
    have hyN:ys.length<N.length:=by omega
    have hkN:half+k<N.length:=by omega
    have hyC:ys.length<C.length:=by omega
    have hkC:half+k<C.length:=by omega
    have hyA:ys.length< (Z0 a).length:=by omega
    obtain⟨o1,h1⟩:∃o,N[half+k]=⟨o,(Z0 b)[k],C[half+k]⟩:=⟨N[half+k].of,by rw[<-hK.hi k hkN hkb,<-hK.cl (half+k) hkN hkC]⟩;obtain⟨o2,h2⟩:∃o,N[ys.length]=⟨o,(Z0 a)[ys.length],C[ys.length]⟩:=⟨N[ys.length].of,by rw[<-hK.lo ys.length hyN hyA,<-hK.cl ys.length hyN hyC]⟩;have hg1:(N.map Yg)[half+k]?=some [.int .i64 o1, .str (Z0 b)[k], .int .i64 C[half+k]]:=by rw[List.getElem?_map,List.getElem?_eq_getElem hkN,h1];rfl
    have hg2:(N.map Yg)[ys.length]?=some [.int .i64 o2, .str (Z0 a)[ys.length], .int .i64 C[ys.length]]:=by rw[List.getElem?_map,List.getElem?_eq_getElem hyN,h2];rfl
    have hga:=ZiG (okM C half ys.length) (fitM (Z0 a++Z0 b) half b (ins2 a b)) (VU half (okM C half) (fitM (Z0 a++Z0 b) half b (ins2 a b)) d) ys lf hkh;rw[hg]at hga;have hok:okM C half ys.length k=decide (C[ys.length]=C[half+k]):=by unfold okM;rw[List.getD_eq_getElem?_getD,List.getD_eq_getElem?_getD,List.getElem?_eq_getElem hyC,List.getElem?_eq_getElem hkC];rfl
    have htk:=Z95 (lf:Int) false (prsM (Z0 a) (Z0 b) ys) e1 (Z0 b)[k] (by omega) (.sl (.loc 1) 0 16 a.length none) (.sl (.loc 2) 0 16 b.length none) (.sl (.loc 3) 0 3 half none) (.sl (.loc 3) half 3 half none);have hBn:(Z0 b).Nodup:=J9 triL (YY triL _);rw[hpyl,ZfB hBn (fun z hz=>by have:=hp.lt z hz;omega) (by omega) hkb]at htk;repeat'((first|(show DRAWN _ _ _ _ _ _ _;first|refine DRAWN.of (id:=7) Z1 mixed Z41 (by kernel_rfl) ?_)|refine ADD.mk (fun _ _=>?_)|refine AD ?_|refine FORK.mk ?_ ?_|(refine GET.at (by rw[Nat.zero_add,Int.toNat_natCast];exact hg2) ?_;conv=>whnf)|(refine GET.at (by rw[Int.toNat_natCast];exact hg1) ?_;conv=>whnf)|refine AU ?_|(refine IW ?_ ?_<;>intro h<;>try(exfalso;omega)))<;>conv=>whnf)
    ·refine⟨(k+1,lf,e1,false),⟨by dsimp only;omega,he1,by simp,fun _=>⟨hlf,?_⟩⟩,by dsimp only;omega,?_⟩
     ·rw[hga,if_pos (.inr (hok.trans (decide_eq_false fun h2=>h h2.symm)))]
     dsimp only;conv=>whnf
     exact GOES.cA h0
    refine CALL.aA [0,1,2,3,5] (htk) ?_;rintro r O nx ⟨rfl,rfl,rfl⟩;have hok1:okM C half ys.length k=true:=hok.trans (decide_eq_true h.symm);conv=>whnf
    repeat'((first|(show DRAWN _ _ _ _ _ _ _;first|refine DRAWN.of (id:=7) Z1 mixed Z41 (by kernel_rfl) ?_)|refine ADD.mk (fun _ _=>?_)|refine AD ?_|refine FORK.mk ?_ ?_|refine AU ?_|(refine IW ?_ ?_<;>intro h<;>try(exfalso;omega)))<;>conv=>whnf)
    ·refine⟨(k+1,lf,e1,false),⟨by dsimp only;omega,he1,by simp,fun _=>⟨hlf,?_⟩⟩,by dsimp only;omega,?_⟩
     ·rw[hga,if_pos (.inl h)]
     dsimp only;conv=>whnf
     exact GOES.cA h0
    ·have hlz:lf=0:=by omega
     subst hlz;rw[if_neg (by rw[hok1];simp;assumption)]at hga;rw[hga];exact FIN.aA h0 [5] (.bool false) [(0,rsBx 5 a.length b.length half ys.length 0 true),(5, .rows 2 ((prsM (Z0 a) (Z0 b) ys++e1).map YA))] ⟨rfl,e1,rfl,⟨0,rfl⟩,he1⟩
    have hnk:k∉ys:=by assumption
    obtain⟨m,rfl⟩:∃m,lf=m+1:=⟨lf-1,by omega⟩;rw[if_neg (by rw[hok1];simp;exact hnk)]at hga;dsimp only at hga;have hwm:IntKind.i64.wrap (((m+1:Nat):Int)-1)=(m:Int):=by rw[Z9 (by omega) (by omega)];omega
    rw[hwm];have hpz:prsM (Z0 a) (Z0 b) (ys++ [k])=prsM (Z0 a) (Z0 b) ys++ [((Z0 a)[ys.length],(Z0 b)[k])]:=by rw[Zfx hyA,List.getD_eq_getElem?_getD,List.getElem?_eq_getElem hkb];rfl
    have hzl:(ys++ [k]).length=ys.length+1:=by simp
    have hpzl:(prsM (Z0 a) (Z0 b) (ys++ [k])).length=ys.length+1:=by rw[hpz,List.length_append,hpyl];rfl
    have hrows:List.take ys.length ((prsM (Z0 a) (Z0 b) ys++e1).map YA)++List.take 1 (List.drop 0 [[SV.str (Z0 a)[ys.length],SV.str (Z0 b)[k]]])=(prsM (Z0 a) (Z0 b) (ys++ [k])).map YA:=by
     rw[List.map_append,List.take_append_of_le_length (by rw[List.length_map,hpyl];exact Nat.le_refl _),List.take_of_length_le (by rw[List.length_map,hpyl];exact Nat.le_refl _),hpz,List.map_append];rfl
    have hfe:a.any (Z3Z (prsM (Z0 a) (Z0 b) (ys++ [k])) (Z0 a)[ys.length] b)=!fitM (Z0 a++Z0 b) half b (ins2 a b) (ys++ [k]):=by
     have hh:half=(Z0 a).length:=hKl.symm;subst hh;rw[ZiL (a:=a) (b:=b) (zs:=ys++ [k]) (by omega) hzl,Bool.not_not]
    have hfl:=Z98 a b none none (prsM (Z0 a) (Z0 b) (ys++ [k])) [] (Z0 a)[ys.length] (m:Int) false (.sl (.loc 3) 0 3 half none) (.sl (.loc 3) half 3 half none) ⟨_,by rw[hpz];exact List.getLast?_concat,rfl⟩ hK.da.few hK.db.few hK.db.rise (by rw[List.append_nil];omega);rw[hfe,List.append_nil,hpzl]at hfl;repeat'((first|(show DRAWN _ _ _ _ _ _ _;first|refine DRAWN.of (id:=12) Z1 mixed Z99 (by kernel_rfl) ?_)|refine ADD.mk (fun _ _=>?_)|refine AD ?_|refine FORK.mk ?_ ?_|(refine GET.at (by rw[Nat.zero_add,Int.toNat_natCast];exact hg2) ?_;conv=>whnf)|(refine GET.at (by rw[Int.toNat_natCast];exact hg1) ?_;conv=>whnf)|(refine NEED.mk (ZC 32 rfl rfl rfl (by rw[List.length_map,List.length_append];omega) (by omega)) ?_;conv=>whnf)|refine AU ?_|(refine IW ?_ ?_<;>intro h<;>try(exfalso;omega)))<;>conv=>whnf)
    all_goals rw[hrows]
    refine CALL.aA [0,1,2,3,7] (hfl) ?_;rintro r O nx ⟨rfl,rfl,rfl⟩;have hinv:=Z0w (fits:=fitM (Z0 a++Z0 b) half b (ins2 a b)) d (ys++ [k]) m (hp.snoc hnk hok1 hkh);conv=>whnf
    refine IF.mk (fun hf=>?_) (fun hf=>?_)
    ·have hf:fitM (Z0 a++Z0 b) half b (ins2 a b) (ys++ [k])=true:=by simpa using hf
     have ihc:=ih (ys++ [k]) [] m (by simp;omega) (by omega) (hp.snoc hnk hok1 hkh) (by simp;omega);rw[if_pos hf]at hga;rw[List.append_nil,hzl]at ihc;generalize VU half (okM C half) (fitM (Z0 a++Z0 b) half b (ins2 a b)) d (ys++ [k]) m=Z at ihc hga hinv;conv=>whnf
     repeat'((first|refine AU ?_|(refine IW ?_ ?_<;>intro h<;>try(exfalso;omega)))<;>conv=>whnf)
     refine CALL.aA [0,1,2,3,7] (ihc) ?_;rintro r O nx ⟨rfl,e2,hq⟩;cases Z with
     |found zs m'=>
      obtain⟨rfl,rfl,he2⟩:=hq;conv=>whnf
      repeat'((first|refine AU ?_|(refine IW ?_ ?_<;>intro h<;>try(exfalso;omega)))<;>conv=>whnf)
      exact FIN.aA h0 [8] (.bool true) [(0,rsBx 5 a.length b.length half zs.length m' false),(5, .rows 2 ((prsM (Z0 a) (Z0 b) zs++e2).map YA))] ⟨rfl,e2,by rw[hga];exact⟨rfl,rfl,he2⟩⟩
     |none m'=>
      obtain⟨rfl,rfl,he2⟩:=hq;conv=>whnf
      repeat'((first|refine AU ?_|(refine IW ?_ ?_<;>intro h<;>try(exfalso;omega)))<;>conv=>whnf)
      have hmm:=hinv.2 m' rfl;rw[show prsM (Z0 a) (Z0 b) (ys++ [k])++e2=prsM (Z0 a) (Z0 b) ys++(((Z0 a)[ys.length],(Z0 b)[k])::e2)by rw[hpz,List.append_assoc];rfl];refine⟨(k+1,m',((Z0 a)[ys.length],(Z0 b)[k])::e2,false),⟨by dsimp only;omega,by simp;omega,⟨by simp,fun _=>⟨by dsimp only;omega,hga.symm⟩⟩⟩,by dsimp only;omega,?_⟩;dsimp only;conv=>whnf
      exact GOES.kA h0 [8]
     |over=>
      obtain⟨rfl,⟨m',rfl⟩,he2⟩:=hq;conv=>whnf
      repeat'((first|refine AU ?_|(refine IW ?_ ?_<;>intro h<;>try(exfalso;omega)))<;>conv=>whnf)
      rw[show prsM (Z0 a) (Z0 b) (ys++ [k])++e2=prsM (Z0 a) (Z0 b) ys++(((Z0 a)[ys.length],(Z0 b)[k])::e2)by rw[hpz,List.append_assoc];rfl];refine⟨(k+1,m',((Z0 a)[ys.length],(Z0 b)[k])::e2,true),⟨by dsimp only;omega,by simp;omega,⟨fun _=>hga,by simp⟩⟩,by dsimp only;omega,?_⟩;dsimp only;conv=>whnf
      exact GOES.kA h0 [8]
    ·have hf:fitM (Z0 a++Z0 b) half b (ins2 a b) (ys++ [k])=false:=by simpa using hf
     rw[if_neg (by rw[hf];simp)]at hga;conv=>whnf
     repeat'((first|refine AU ?_|(refine IW ?_ ?_<;>intro h<;>try(exfalso;omega)))<;>conv=>whnf)
     rw[<-List.append_nil (prsM (Z0 a) (Z0 b) (ys++ [k]))];rw[show prsM (Z0 a) (Z0 b) (ys++ [k])++ []=prsM (Z0 a) (Z0 b) ys++(((Z0 a)[ys.length],(Z0 b)[k])::[])by rw[hpz,List.append_assoc];rfl];refine⟨(k+1,m,((Z0 a)[ys.length],(Z0 b)[k])::[],false),⟨by dsimp only;omega,by simp;omega,⟨by simp,fun _=>⟨by dsimp only;omega,hga.symm⟩⟩⟩,by dsimp only;omega,?_⟩;dsimp only;conv=>whnf
     exact GOES.kA h0 [7]
   ·have hRn:R= .none lf:=by rw[<-hg,List.drop_of_length_le (by rw[List.length_range];omega)];rfl
    rw[hRn];exact FIN.aA h0 [5] (.bool false) [(0,rsBx 5 a.length b.length half ys.length lf false),(5, .rows 2 ((prsM (Z0 a) (Z0 b) ys++e1).map YA))] ⟨rfl,e1,rfl,rfl,he1⟩
end Go.Proofs.YtbfbokdccdagkaaGreatDoor
