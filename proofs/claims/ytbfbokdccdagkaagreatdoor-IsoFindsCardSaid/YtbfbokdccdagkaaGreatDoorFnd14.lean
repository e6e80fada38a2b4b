/- Part 14: Tag6, Tag7. Conditions: as each part says. -/
import Derived.Test.YtbfbokdccdagkaaGreatDoorFnd9
set_option linter.unusedVariables false
set_option linter.unusedSimpArgs false
set_option maxRecDepth 20000
set_option maxHeartbeats 8000000
namespace Go.Proofs.YtbfbokdccdagkaaGreatDoor
open Go.Sx Go.Our
open Tryz
def rd6(i m:Nat):Hp:= .box [.sl (.loc 1) i 1 m none]
def tg6(L E S R:List UInt8)(jv v jx x:Nat)(P:List UInt8):Hp:= .box [.str L, .str E, .str S, .str R, .sl (.loc jv) 0 1 v none, .sl (.loc jx) 0 1 x none, .str P]
theorem Jp(least most:Int)(digits:Bool)(ps:List (List UInt8))(hsm:∀s∈ps,Sm s)(i m:Nat)(him:i+m=ps.length):
 Does prog tab 224 2 [.ptr (.loc 0) 0 0 0, .int .i64 least, .int .i64 most, .bool digits] [] [(0,rd6 i m),(1, .rows 1 (ps.map Zc))] (ValK 2 (.bool (Yq (Z0T least most digits) ps i))):=by
 refine Does.enter Z1 call224 func224 rfl 52 rfl rfl [.tmp 8] rfl ?_;intro w0 F η0 h0;conv=>whnf
 rcases Nat.eq_zero_or_pos m with hm|hm
 ·subst hm;repeat'((first|(refine GETG.mk ⟨Zc [],fun h=>(by simp at h),?_⟩;conv=>whnf)|refine AU ?_|(refine IW ?_ ?_<;>intro h<;>try(exfalso;omega)))<;>conv=>whnf)
  all_goals first
   |(refine FIN.valueK h0 rfl (congrArg SV.bool ?_)
     unfold Yq;rw[List.getElem?_eq_none (by omega)])
   |(exfalso;simp_all;done)
 ·have hlt:i<ps.length:=by omega
  have hse:Yq (Z0T least most digits) ps i=Z0T least most digits ps[i]:=by unfold Yq;rw[List.getElem?_eq_getElem hlt]
  have hs:=hsm _ (List.getElem_mem hlt);repeat'((first|(refine GET.at (row:=Zc (ps[i]'(by omega))) (by rw[List.getElem?_map,show i+(0:Int).toNat=i by simp,List.getElem?_eq_getElem (by omega)];rfl) ?_;conv=>whnf)|(refine GETG.at (row:=Zc (ps[i]'(by omega))) (by rw[List.getElem?_map,show i+(0:Int).toNat=i by simp,List.getElem?_eq_getElem (by omega)];rfl) ?_;conv=>whnf)|refine CALL.value (Wu _ hs) rfl rfl ?_|refine CALL.value (V1 _ hs) rfl rfl ?_|refine AU ?_|(refine IW ?_ ?_<;>intro h<;>try(exfalso;omega)))<;>conv=>whnf)
  all_goals
   refine FIN.valueK h0 rfl (congrArg SV.bool ?_);rw[hse];unfold Z0T
  ·rw[show decide (least<=(ps[i].length:Int)/\(ps[i].length:Int)<=most)=false from decide_eq_false (by omega)];rfl
  ·rw[show decide (least<=(ps[i].length:Int)/\(ps[i].length:Int)<=most)=true from decide_eq_true (by omega)];simp[h]
  ·rw[show decide (least<=(ps[i].length:Int)/\(ps[i].length:Int)<=most)=true from decide_eq_true (by omega)];simp[h]
theorem YF(ps:List (List UInt8))(i m:Nat)(him:i+(m+1)=ps.length)(p:List UInt8)(hp:ps[i]?=some p):
 Does prog tab 225 2 [.ptr (.loc 0) 0 0 0] [(0,rd6 i (m+1))] [(1, .rows 1 (ps.map Zc))] (fun r O nx=>r= .str p/\O=[(0,rd6 (i+1) m)]/\nx=2):=by
 refine Does.enter Z1 call225 func225 rfl 19 rfl rfl [.tmp 2] rfl ?_;intro w0 F η0 h0;conv=>whnf
 repeat'((first|(refine GET.at (row:=Zc p) (by rw[List.getElem?_map,show i+(0:Int).toNat=i by simp,hp];rfl) ?_;conv=>whnf)|refine AU ?_|(refine IW ?_ ?_<;>intro h<;>try(exfalso;omega)))<;>conv=>whnf)
 exact FIN.here h0 (Oc:=[(0,rd6 (i+1) m)]) rfl rfl rfl ⟨rfl,trivial⟩ ⟨rfl,rfl,rfl⟩
theorem Zd9{b:Nat}:∀{l:List (List UInt8)},(∀s∈l,s.length<=b)->Jo l<=b*l.length
 | [],_=>by simp[Jo]
 |s::l,h=>by
  have h1:=h s (by simp);have h2:=Zd9 (l:=l) fun x hx=>h x (by simp[hx]);unfold Jo at*;simp only[List.map_cons,List.sum_cons,List.length_cons,Nat.mul_add];omega
theorem Zig:Z0T 3 3 false=fun s=>ZD s 3 3 true:=funext (XM 3 3)
theorem Z4n(ps:List (List UInt8))(hb:Jo ps+ps.length<=68719476736)(i m:Nat)(him:i+m=ps.length):
 Does prog tab 223 5 [.ptr (.loc 0) 0 0 0, .ptr (.loc 2) 0 0 0] [(0,rd6 i m),(2,tg6 [] [] [] [] 3 0 4 0 [])] [(1, .rows 1 (ps.map Zc))]
  (fun r O nx=> ∃(i' m':Nat) (L E:List UInt8),i'+m'=ps.length/\r= .bool (Jw (ps.drop i)).isSome/\(∀l,Jw (ps.drop i)=some l->l=ps.drop i'/\L≠ [])/\O=[(0,rd6 i' m'),(2,tg6 L E [] [] 3 0 4 0 [])]/\nx=5):=by
 have hsm:=WM (ps:=ps) (by omega);refine Does.enter Z1 call223 func223 rfl 41 rfl rfl [.tmp 4] rfl ?_;intro w0 F η0 h0;conv=>whnf
 refine CALL.aA [0,1] (Jp 2 3 false ps hsm i m him) ?_;rintro r O' nx' ⟨rfl,rfl,rfl⟩;conv=>whnf
 refine IF.mk (fun h1=>?_) (fun h1=>?_)
 ·obtain⟨w,hw,hwm⟩:=ZN h1;rw[XM]at hwm;have hwl:=Je hwm;have hlt:=(List.getElem?_eq_some_iff.1 hw).1;obtain⟨k,rfl⟩:∃k,m=k+1:=⟨m-1,by omega⟩;have hne:w≠ []:=by rintro rfl;simp at hwl
  have hL:Jw (ps.drop i)=some (extP 3 (ps.drop (i+1))):=by
   rw[ZV hw];simp only[Jw];rw[if_pos (by rw[Z3B,XM,hwm];rfl),if_neg (by omega)]
  conv=>whnf
  refine CALL.aA [0,1] (YF ps i k him w hw) ?_;rintro r O' nx' ⟨rfl,rfl,rfl⟩;conv=>whnf
  refine LOOP.nil 5 1 rfl ?_;refine LOOP.go Z1 [0,1] (X:=List (List UInt8)×Nat) (fun y=>y.1.length<=3/\(∀s∈y.1,s.length<=3)/\y.2+(ps.length-y.2)=ps.length/\extP 3 (ps.drop (i+1))=extP (3-y.1.length) (ps.drop y.2)) (fun y=>[(5, .sl (.loc 5) 0 1 y.1.length none)]) (fun y=>[(0,rd6 y.2 (ps.length-y.2)),(2,tg6 w [] [] [] 3 0 4 0 []),(5, .rows 1 (y.1.map Zc))]) 6 (fun y=>3-y.1.length) ([],i+1) ⟨by simp,by simp,by simp only;omega,rfl⟩ ?_;conv=>whnf
  rw[show ps.length-(i+1)=k by omega];refine⟨by exact GOES.kA h0 [5],?_⟩;rintro⟨l,a⟩ ⟨hl,hls,ha,hx⟩;dsimp only at hl hls ha hx⊢
  have fin:Yq (fun s=>ZD s 3 3 true) ps a=false\/l.length=3->extP 3 (ps.drop (i+1))=ps.drop a:=by
   rintro(h|h)
   ·rw[hx,Zgd h]
   ·rw[hx,h];rfl
  have hbl:=Zd9 hls;conv=>whnf
  refine IF.mk (fun h=>?_) (fun h=>?_)
  ·have h:l.length<3:=by simp at h;omega
   conv=>whnf
   repeat'((first|refine AU ?_|(refine IW ?_ ?_<;>intro h<;>try(exfalso;omega)))<;>conv=>whnf)
   refine CALL.aA [0,1] (Jp 3 3 false ps hsm a (ps.length-a) ha) ?_;rintro r O' nx' ⟨rfl,rfl,rfl⟩;conv=>whnf
   repeat'((first|refine AU ?_|(refine IW ?_ ?_<;>intro h<;>try(exfalso;omega)))<;>conv=>whnf)
   ·obtain⟨u,hu,hum⟩:=ZN h;rw[XM]at hum;have hul:=Je hum;have hlt2:=(List.getElem?_eq_some_iff.1 hu).1;obtain⟨k',hk'⟩:∃k',ps.length-a=k'+1:=⟨ps.length-a-1,by omega⟩;rw[hk'];refine CALL.aA [0,1] (YF ps a k' (by omega) u hu) ?_;rintro r O' nx' ⟨rfl,rfl,rfl⟩;conv=>whnf
    repeat'((first|refine AU ?_|(refine IW ?_ ?_<;>intro h<;>try(exfalso;omega)))<;>conv=>whnf)
    refine⟨(l++ [u],a+1),⟨by simp;omega,?_,by simp only;omega,?_⟩,by simp;omega,?_⟩
    ·intro x hx';rcases List.mem_append.1 hx' with h|h
     ·exact hls x h
     ·rw[List.mem_singleton.1 h];omega
    ·dsimp only;rw[hx,ZV hu,show 3-l.length=(3-(l++ [u]).length)+1 by simp;omega];simp only[extP];rw[if_pos hum]
    ·dsimp only;rw[show ps.length-(a+1)=k' by omega,show(l++ [u]).length=l.length+1 by simp];conv=>whnf
     exact GOES.kA h0 [7]
   ·rw[Zig]at h;refine CALL.aA [5] (XO l (by omega) 0 l.length (by omega)) ?_;rintro r O' nx' ⟨E,hE,_,rfl,rfl,rfl⟩;conv=>whnf
    exact FIN.here h0 (Oc:=[(0,rd6 (a) (ps.length-a)),(2,tg6 (w) (E) [] [] 3 0 4 0 [])]) rfl rfl rfl ⟨rfl,rfl,trivial⟩ ⟨a,ps.length-a,w,E,by omega,by rw[hL];rfl,by rw[hL];rintro x ⟨⟩;exact⟨fin (.inl h),hne⟩,rfl,rfl⟩
  ·have h:l.length=3:=by simp at h;omega
   conv=>whnf
   repeat'((first|refine AU ?_|(refine IW ?_ ?_<;>intro h<;>try(exfalso;omega)))<;>conv=>whnf)
   refine CALL.aA [5] (XO l (by omega) 0 l.length (by omega)) ?_;rintro r O' nx' ⟨E,hE,_,rfl,rfl,rfl⟩;conv=>whnf
   exact FIN.here h0 (Oc:=[(0,rd6 (a) (ps.length-a)),(2,tg6 (w) (E) [] [] 3 0 4 0 [])]) rfl rfl rfl ⟨rfl,rfl,trivial⟩ ⟨a,ps.length-a,w,E,by omega,by rw[hL];rfl,by rw[hL];rintro x ⟨⟩;exact⟨fin (.inr h),hne⟩,rfl,rfl⟩
 ·conv=>whnf
  refine CALL.aA [0,1] (Jp 4 8 false ps hsm i m him) ?_;rintro r O' nx' ⟨rfl,rfl,rfl⟩;conv=>whnf
  refine IF.mk (fun h2=>?_) (fun h2=>?_)
  ·obtain⟨w,hw,hwm⟩:=ZN h2;have hwm':=hwm;rw[XM]at hwm;have hwl:=Je hwm;have hlt:=(List.getElem?_eq_some_iff.1 hw).1;obtain⟨k,rfl⟩:∃k,m=k+1:=⟨m-1,by omega⟩;have hne:w≠ []:=by rintro rfl;simp at hwl
   have hL:Jw (ps.drop i)=some (ps.drop (i+1)):=by
    rw[ZV hw];simp only[Jw];rw[if_pos (by rw[Z3B,hwm',Bool.or_true]),if_pos (by omega)]
   conv=>whnf
   refine CALL.aA [0,1] (YF ps i k him w hw) ?_;rintro r O' nx' ⟨rfl,rfl,rfl⟩;conv=>whnf
   exact FIN.here h0 (Oc:=[(0,rd6 (i+1) (k)),(2,tg6 (w) ([]) [] [] 3 0 4 0 [])]) rfl rfl rfl ⟨rfl,rfl,trivial⟩ ⟨i+1,k,w,[],by omega,by rw[hL];rfl,by rw[hL];rintro x ⟨⟩;exact⟨rfl,hne⟩,rfl,rfl⟩
  ·have hL:Jw (ps.drop i)=none:=by
    rcases Xq h1 with h|⟨s,hs,h3,h4⟩
    ·rw[h];rfl
    ·rcases Xq h2 with h|⟨s',hs',h5,h6⟩
     ·rw[h]at h3;cases h3
     ·rw[hs]at hs';cases hs';rw[h3];simp only[Jw];rw[if_neg (by rw[Z3B,h4,h6];simp)]
   conv=>whnf
   exact FIN.here h0 (Oc:=[(0,rd6 (i) (m)),(2,tg6 ([]) ([]) [] [] 3 0 4 0 [])]) rfl rfl rfl ⟨rfl,rfl,trivial⟩ ⟨i,m,[],[],by omega,by rw[hL];rfl,by simp[hL],rfl,rfl⟩
end Go.Proofs.YtbfbokdccdagkaaGreatDoor
namespace Go.Proofs.YtbfbokdccdagkaaGreatDoor
open Go.Sx Go.Our
open Tryz
def Z0Y:Plan:=(Zv [(0,1),(1,1),(2,1),(4,1),(9,1),(10,1),(3,2),(5,1),(6,2),(7,1),(11,2),(8,3),(12,3),(13,1)])
def Z0Z:Plan:=(Zv [(0,1),(1,1),(2,1),(3,1),(5,1),(4,2),(6,3),(7,3),(8,0),(9,1),(10,1),(11,0)])
def dupM(xs:List (List UInt8))(w:List UInt8):Bool:=xs.any fun x=>Z6 (x.take 1)==Z6 w
theorem Za0{xs:List (List UInt8)}{w:List UInt8}{i:Nat}(h:i<xs.length):dupM (xs.drop i) w=(Z6 (xs[i].take 1)==Z6 w||dupM (xs.drop (i+1)) w):=by
 unfold dupM;rw[List.drop_eq_getElem_cons h];rfl
theorem UI(ps:List (List UInt8))(hb:Jo ps+ps.length<=34359738368)(a m:Nat)(ham:a+(m+1)=ps.length)(w:List UInt8)(hw:ps[a]?=some w)(hw1:w.length=1)
 (L E S R:List UInt8) (v:Nat) (P:List UInt8) (xs:List (List UInt8)) (hxs:∀x∈xs,1<=x.length/\Sm x) (hxl:xs.length<=34359738368):
 Does prog tab 228 5 [.ptr (.loc 0) 0 0 0, .ptr (.loc 2) 0 0 0] [(0,rd6 a (m+1)),(2,tg6 L E S R 3 v 4 xs.length P),(4, .rows 1 (xs.map Zc))] [(1, .rows 1 (ps.map Zc))]
  (fun r O nx=> ∃(n:Nat) (xs':List (List UInt8)),n=ZS (Yy 2) (ps.drop (a+1))/\r= .bool (!dupM xs w&&decide (n≠0))/\(dupM xs w=false->∃z,xs'=xs++ [z]/\z.take 1=w/\Sm z)/\
    O=[(0,rd6 (a+1+n) (m-n)),(2,tg6 L E S R 3 v 5 xs'.length P),(5, .rows 1 (xs'.map Zc))]/\nx=6):=by
 have hsm:=WM (ps:=ps) (by omega);have hwl:Sm w:=hsm w (List.mem_of_getElem? hw);refine Does.enter Z1 call228 func228 rfl 69 rfl rfl [.tmp 4] rfl ?_;intro w0 F η0 h0;conv=>whnf
 refine CALL.aA [0,1] (YF ps a m ham w hw) ?_;rintro r O' nx' ⟨rfl,rfl,rfl⟩;conv=>whnf
 refine LOOP.go Z1 [0,1] (X:=Nat×List (List UInt8)) (fun y=>y.1<=m/\y.2.length=y.1+1/\y.2[0]?=some w/\Jo y.2<=((ps.take (a+1+y.1)).map List.length).sum/\ZS (Yy 2) (ps.drop (a+1))=y.1+ZS (Yy 2) (ps.drop (a+1+y.1))) (fun y=>[(5, .sl (.loc 5) 0 1 y.2.length none)]) (fun y=>[(0,rd6 (a+1+y.1) (m-y.1)),(2,tg6 L E S R 3 v 4 xs.length P),(4, .rows 1 (xs.map Zc)),(5, .rows 1 (y.2.map Zc))]) 6 (fun y=>m-y.1) (0,[w]) ⟨by simp,by simp,by simp,?_,by simp⟩ ?_
 ·simp only[Nat.add_zero];rw[Wq hw];simp[Jo]
 conv=>whnf
 refine⟨by exact GOES.kA h0 [5],?_⟩;rintro⟨c,l⟩ ⟨hc,hl,hl0,hlb,hx⟩;dsimp only at hc hl hl0 hlb hx⊢;have hlt0:=YE ps (a+1+c);have out:∀(n:Nat),ZS (Yy 2) (ps.drop (a+1+c))=0->ZS (Yy 2) (ps.drop (a+1))=c:=by intro n h;omega
 conv=>whnf
 rcases Nat.lt_or_ge c m with hcm|hcm
 ·have hlt:a+1+c<ps.length:=by omega
  have hs:=hsm _ (List.getElem_mem hlt);have hs1:=Wq (List.getElem?_eq_getElem hlt);repeat'((first|(refine GET.at (row:=Zc (ps[a+1+c]'(by omega))) (by rw[List.getElem?_map,show a+1+c+(0:Int).toNat=a+1+c by simp,List.getElem?_eq_getElem (by omega)];rfl) ?_;conv=>whnf)|refine CALL.value (V2 _ _ _ hs) rfl rfl ?_|refine AU ?_|(refine IW ?_ ?_<;>intro h<;>try(exfalso;omega)))<;>conv=>whnf)
  ·obtain⟨k',hk'⟩:∃k',m-c=k'+1:=⟨m-c-1,by omega⟩;rw[hk'];refine CALL.aA [0,1] (YF ps (a+1+c) k' (by omega) _ (List.getElem?_eq_getElem hlt)) ?_;rintro r O' nx' ⟨rfl,rfl,rfl⟩;conv=>whnf
   repeat'((first|refine AU ?_|(refine IW ?_ ?_<;>intro h<;>try(exfalso;omega)))<;>conv=>whnf)
   have e:(l++ [ps[a+1+c]]).length=l.length+1:=by simp
   refine⟨(c+1,l++ [ps[a+1+c]]),⟨by simp only;omega,by simp;omega,by simp only;rw[List.getElem?_append_left (by omega),hl0],?_,?_⟩,by simp only;omega,?_⟩
   ·simp only;rw[show a+1+(c+1)=a+1+c+1 by omega,hs1];simp[Jo]at hlb⊢;omega
   ·simp only;rw[hx,List.drop_eq_getElem_cons hlt];simp only[ZS];rw[if_pos h];show c+(ZS _ _+1)=_
    rw[show a+1+(c+1)=a+1+c+1 by omega];omega
   ·dsimp only;rw[e,show a+1+(c+1)=a+1+c+1 by omega,show m-(c+1)=k' by omega];conv=>whnf
    exact GOES.kA h0 [7]
  ·have hn:ZS (Yy 2) (ps.drop (a+1))=c:=by
    rw[hx,List.drop_eq_getElem_cons hlt];simp only[ZS];rw[if_neg (by simp[h])];rfl
   refine LOOP.go Z1 [1,5] (X:=Nat) (fun i=>i<=xs.length/\dupM xs w=dupM (xs.drop i) w) (fun i=>[(7, .int .i64 (i:Int))]) (fun i=>[(0,rd6 (a+1+c) (m-c)),(2,tg6 L E S R 3 v 4 xs.length P),(4, .rows 1 (xs.map Zc)),(5, .rows 1 (l.map Zc))]) 6 (fun i=>xs.length-i) 0 ⟨by omega,rfl⟩ ?_;conv=>whnf
   refine⟨by exact GOES.kA h0 [5],?_⟩;rintro i ⟨hi,hd⟩;dsimp only at hi hd⊢;conv=>whnf
   rcases Nat.lt_or_ge i xs.length with him|him
   ·obtain⟨hx1,hx2⟩:=hxs _ (List.getElem_mem him);have hsub:Sm (xs[i].take (1:Int).toNat):=by simp;omega
    repeat'((first|refine DRAWN.of (id:=8) Z1 mixed Z0Y (by kernel_rfl) ?_|refine DRAWN.of (id:=10) Z1 mixed Z0Z (by kernel_rfl) ?_|refine ADD.mk (fun _ _=>?_)|refine AD ?_|refine FORK.mk ?_ ?_|(refine GET.at (row:=Zc (xs[i]'(by omega))) (by rw[List.getElem?_map,show 0+(i:Int).toNat=i by simp,List.getElem?_eq_getElem (by omega)];rfl) ?_;conv=>whnf)|(refine GET.at (row:=Zc w) (by rw[List.getElem?_map,show 0+(0:Int).toNat=0 by simp,hl0];rfl) ?_;conv=>whnf)|refine CALL.value (Yt _ hsub) rfl rfl ?_|refine CALL.value (Yt _ hwl) rfl rfl ?_|refine AU ?_|(refine IW ?_ ?_<;>intro h<;>try(exfalso;omega)))<;>conv=>whnf)
    ·have hdup:dupM xs w=true:=by rw[hd,Za0 him,beq_iff_eq.2 h];rfl
     refine FIN.aA h0 [4] (.bool false) [(0,rd6 (a+1+c) (m-c)),(2,tg6 L E S R 3 v 5 xs.length P),(5, .rows 1 (xs.map Zc))] ?_;exact⟨c,xs,hn.symm,by rw[hdup];rfl,by simp[hdup],rfl,rfl⟩
    ·refine⟨i+1,⟨by omega,?_⟩,by omega,?_⟩
     ·rw[hd,Za0 him];have:(Z6 (xs[i].take 1)==Z6 w)=false:=by simpa using h
      rw[this,Bool.false_or]
     ·conv=>whnf
      exact GOES.kA h0 [5]
   ·have hdup:dupM xs w=false:=by rw[hd,List.drop_eq_nil_of_le (by omega)];rfl
    repeat'((first|refine DRAWN.of (id:=8) Z1 mixed Z0Y (by kernel_rfl) ?_|refine DRAWN.of (id:=10) Z1 mixed Z0Z (by kernel_rfl) ?_|refine ADD.mk (fun _ _=>?_)|refine AD ?_|refine FORK.mk ?_ ?_|refine AU ?_|(refine IW ?_ ?_<;>intro h<;>try(exfalso;omega)))<;>conv=>whnf)
    refine CALL.aA [5] (XO l (by omega) 0 l.length (by omega)) ?_;rintro r O' nx' ⟨z,hz,hzw,rfl,rfl,rfl⟩;conv=>whnf
    repeat'((first|refine DRAWN.of (id:=8) Z1 mixed Z0Y (by kernel_rfl) ?_|refine DRAWN.of (id:=10) Z1 mixed Z0Z (by kernel_rfl) ?_|refine ADD.mk (fun _ _=>?_)|refine AD ?_|refine FORK.mk ?_ ?_|refine AU ?_|(refine IW ?_ ?_<;>intro h<;>try(exfalso;omega)))<;>conv=>whnf)
    obtain⟨t,rfl⟩:=hzw w hl0;have e:(xs++ [w++t]).length=xs.length+1:=by simp
    have ec:decide ((1:Int)< (l.length:Int))=decide (c≠0):=decide_eq_decide.2 (by omega);rw[ec];refine FIN.aA h0 [7] (.bool (decide (c≠0))) [(0,rd6 (a+1+c) (m-c)),(2,tg6 L E S R 3 v 5 (xs.length+1) P),(5, .rows 1 ((xs++ [w++t]).map Zc))] ?_;exact⟨c,xs++ [w++t],hn.symm,by rw[hdup];rfl,fun _=>⟨_,rfl,by rw[List.take_append_of_le_length (by omega),List.take_of_length_le (by omega)],by omega⟩,by rw[e],rfl⟩
 ·repeat'((first|refine AU ?_|(refine IW ?_ ?_<;>intro h<;>try(exfalso;omega)))<;>conv=>whnf)
  have hn:ZS (Yy 2) (ps.drop (a+1))=c:=by
   rw[hx,List.drop_eq_nil_of_le (by omega)];rfl
  refine LOOP.go Z1 [1,5] (X:=Nat) (fun i=>i<=xs.length/\dupM xs w=dupM (xs.drop i) w) (fun i=>[(7, .int .i64 (i:Int))]) (fun i=>[(0,rd6 (a+1+c) (m-c)),(2,tg6 L E S R 3 v 4 xs.length P),(4, .rows 1 (xs.map Zc)),(5, .rows 1 (l.map Zc))]) 6 (fun i=>xs.length-i) 0 ⟨by omega,rfl⟩ ?_;conv=>whnf
  refine⟨by exact GOES.kA h0 [5],?_⟩;rintro i ⟨hi,hd⟩;dsimp only at hi hd⊢;conv=>whnf
  rcases Nat.lt_or_ge i xs.length with him|him
  ·obtain⟨hx1,hx2⟩:=hxs _ (List.getElem_mem him);have hsub:Sm (xs[i].take (1:Int).toNat):=by simp;omega
   repeat'((first|refine DRAWN.of (id:=8) Z1 mixed Z0Y (by kernel_rfl) ?_|refine DRAWN.of (id:=10) Z1 mixed Z0Z (by kernel_rfl) ?_|refine ADD.mk (fun _ _=>?_)|refine AD ?_|refine FORK.mk ?_ ?_|(refine GET.at (row:=Zc (xs[i]'(by omega))) (by rw[List.getElem?_map,show 0+(i:Int).toNat=i by simp,List.getElem?_eq_getElem (by omega)];rfl) ?_;conv=>whnf)|(refine GET.at (row:=Zc w) (by rw[List.getElem?_map,show 0+(0:Int).toNat=0 by simp,hl0];rfl) ?_;conv=>whnf)|refine CALL.value (Yt _ hsub) rfl rfl ?_|refine CALL.value (Yt _ hwl) rfl rfl ?_|refine AU ?_|(refine IW ?_ ?_<;>intro h<;>try(exfalso;omega)))<;>conv=>whnf)
   ·have hdup:dupM xs w=true:=by rw[hd,Za0 him,beq_iff_eq.2 h];rfl
    refine FIN.aA h0 [4] (.bool false) [(0,rd6 (a+1+c) (m-c)),(2,tg6 L E S R 3 v 5 xs.length P),(5, .rows 1 (xs.map Zc))] ?_;exact⟨c,xs,hn.symm,by rw[hdup];rfl,by simp[hdup],rfl,rfl⟩
   ·refine⟨i+1,⟨by omega,?_⟩,by omega,?_⟩
    ·rw[hd,Za0 him];have:(Z6 (xs[i].take 1)==Z6 w)=false:=by simpa using h
     rw[this,Bool.false_or]
    ·conv=>whnf
     exact GOES.kA h0 [5]
  ·have hdup:dupM xs w=false:=by rw[hd,List.drop_eq_nil_of_le (by omega)];rfl
   repeat'((first|refine DRAWN.of (id:=8) Z1 mixed Z0Y (by kernel_rfl) ?_|refine DRAWN.of (id:=10) Z1 mixed Z0Z (by kernel_rfl) ?_|refine ADD.mk (fun _ _=>?_)|refine AD ?_|refine FORK.mk ?_ ?_|refine AU ?_|(refine IW ?_ ?_<;>intro h<;>try(exfalso;omega)))<;>conv=>whnf)
   refine CALL.aA [5] (XO l (by omega) 0 l.length (by omega)) ?_;rintro r O' nx' ⟨z,hz,hzw,rfl,rfl,rfl⟩;conv=>whnf
   repeat'((first|refine DRAWN.of (id:=8) Z1 mixed Z0Y (by kernel_rfl) ?_|refine DRAWN.of (id:=10) Z1 mixed Z0Z (by kernel_rfl) ?_|refine ADD.mk (fun _ _=>?_)|refine AD ?_|refine FORK.mk ?_ ?_|refine AU ?_|(refine IW ?_ ?_<;>intro h<;>try(exfalso;omega)))<;>conv=>whnf)
   obtain⟨t,rfl⟩:=hzw w hl0;have e:(xs++ [w++t]).length=xs.length+1:=by simp
   have ec:decide ((1:Int)< (l.length:Int))=decide (c≠0):=decide_eq_decide.2 (by omega);rw[ec];refine FIN.aA h0 [7] (.bool (decide (c≠0))) [(0,rd6 (a+1+c) (m-c)),(2,tg6 L E S R 3 v 5 (xs.length+1) P),(5, .rows 1 ((xs++ [w++t]).map Zc))] ?_;exact⟨c,xs++ [w++t],hn.symm,by rw[hdup];rfl,fun _=>⟨_,rfl,by rw[List.take_append_of_le_length (by omega),List.take_of_length_le (by omega)],by omega⟩,by rw[e],rfl⟩
theorem Z0m(ps:List (List UInt8))(hb:Jo ps+ps.length<=34359738368)(a m:Nat)(ham:a+m=ps.length)(ha:a<ps.length)
 (L E S R:List UInt8) (v x:Nat) (P:List UInt8):
 Does prog tab 229 5 [.ptr (.loc 0) 0 0 0, .ptr (.loc 2) 0 0 0] [(2,tg6 L E S R 3 v 4 x P)] [(0,rd6 a m),(1, .rows 1 (ps.map Zc))]
  (fun r O nx=> ∃P',r= .bool (decide (ZS (Yy 1) (ps.drop (a+1))≠0/\ZS (Yy 1) (ps.drop (a+1))=(ps.drop (a+1)).length))/\O=[(2,tg6 L E S R 3 v 4 x P')]/\nx=5):=by
 have hsm:=WM (ps:=ps) (by omega);have hspan:=Vy (Yy 1) (ps.drop (a+1));rw[List.length_drop]at hspan⊢;refine Does.enter Z1 call229 func229 rfl 40 rfl rfl [.tmp 4] rfl ?_;intro w0 F η0 h0;conv=>whnf
 refine CALL.aA [1] (XO ps (by omega) a m ham) ?_;rintro r O' nx' ⟨z,hz,_,rfl,rfl,rfl⟩;conv=>whnf
 refine IF.mk (fun h=>?_) (fun h=>?_)
 ·have h:m<2:=by simp at h;omega
  conv=>whnf
  exact FIN.here h0 (rc:= .bool _) (Oc:=[(2,tg6 L E S R 3 v 4 x z)]) rfl rfl rfl ⟨rfl,trivial⟩ ⟨z,congrArg SV.bool (decide_eq_false (by omega)).symm,rfl,rfl⟩
 have h:2<=m:=by simp at h;omega
 conv=>whnf
 refine LOOP.go Z1 [0] (X:=Nat) (fun i=>1<=i/\i<=m/\ZS (Yy 1) (ps.drop (a+1))=(i-1)+ZS (Yy 1) (ps.drop (a+i))) (fun i=>[(5, .int .i64 (i:Int))]) (fun i=>[(2,tg6 L E S R 3 v 4 x z)]) 5 (fun i=>m-i) 1 ⟨by omega,by omega,by simp⟩ ?_;conv=>whnf
 refine⟨by exact GOES.cA h0,?_⟩;rintro i ⟨hi1,hi,hx⟩;dsimp only at hi1 hi hx⊢;conv=>whnf
 rcases Nat.lt_or_ge i m with him|him
 ·have hlt:a+i<ps.length:=by omega
  have hs:=hsm _ (List.getElem_mem hlt);rw[List.drop_eq_getElem_cons hlt]at hx;simp only[ZS]at hx;repeat'((first|(refine GET.at (row:=Zc (ps[a+i]'(by omega))) (by rw[List.getElem?_map,show a+(i:Int).toNat=a+i by simp,List.getElem?_eq_getElem (by omega)];rfl) ?_;conv=>whnf)|refine CALL.value (V2 _ _ _ hs) rfl rfl ?_|refine AU ?_|(refine IW ?_ ?_<;>intro h<;>try(exfalso;omega)))<;>conv=>whnf)
  ·rw[if_neg (by simp[Yy,h])]at hx;exact FIN.here h0 (rc:= .bool _) (Oc:=[(2,tg6 L E S R 3 v 4 x z)]) rfl rfl rfl ⟨rfl,trivial⟩ ⟨z,congrArg SV.bool (decide_eq_false (by omega)).symm,rfl,rfl⟩
  ·rw[if_pos (by simp[Yy,h])]at hx;refine⟨i+1,⟨by omega,by omega,by rw[hx,show a+(i+1)=a+i+1 by omega];omega⟩,by omega,?_⟩;conv=>whnf
   exact GOES.cA h0
 ·rw[show ps.drop (a+i)=[]from List.drop_eq_nil_of_le (by omega)]at hx;simp only[ZS]at hx;repeat'((first|refine AU ?_|(refine IW ?_ ?_<;>intro h<;>try(exfalso;omega)))<;>conv=>whnf)
  exact FIN.here h0 (rc:= .bool _) (Oc:=[(2,tg6 L E S R 3 v 4 x z)]) rfl rfl rfl ⟨rfl,trivial⟩ ⟨z,congrArg SV.bool (decide_eq_true (by omega)).symm,rfl,rfl⟩
end Go.Proofs.YtbfbokdccdagkaaGreatDoor
