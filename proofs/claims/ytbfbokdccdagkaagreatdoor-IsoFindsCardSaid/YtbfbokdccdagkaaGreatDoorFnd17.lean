/- Part 17: Apart1, IsoPut, IsoLook. Conditions: as each part says. -/
import Derived.Test.YtbfbokdccdagkaaGreatDoorFnd12
import Derived.Test.YtbfbokdccdagkaaGreatDoorFnd16
set_option linter.unusedVariables false
set_option linter.unusedSimpArgs false
set_option maxRecDepth 20000
set_option maxHeartbeats 8000000
namespace Go.Proofs.YtbfbokdccdagkaaGreatDoor
open Go.Sx Go.Our
open Tryz
def Vn(a b:List Qd):Int:=if(Xy a).2≠0 then(Xy a).2 else(Xy b).2
theorem Z63(a za b zb:List Qd)(limA limB:Option Nat)(ha:a.length<=1152921504606846976)(hb:b.length<=1152921504606846976)(qa:Wf a)(qb:Wf b):Does prog tab 43 2 [.sl (.loc 0) 0 16 a.length limA, .sl (.loc 1) 0 16 b.length limB] [] [(0, .rows 16 ((a++za).map Zj)),(1, .rows 16 ((b++zb).map Zj))] (ValK 2 (.int .i64 (Vn a b))):=by
 have h1:=Z3M a za limA ha qa;have h2:=Z3M b zb limB hb qb;refine Does.enter Z1 call43 func43 rfl 23 rfl rfl [.tmp 4] rfl ?_;intro w0 F η0 h0;conv=>whnf
 refine CALL.aA [0] (h1) ?_;rintro r O nx ⟨rfl,rfl,rfl⟩;conv=>whnf
 repeat'((first|refine AU ?_|(refine IW ?_ ?_<;>intro h<;>try(exfalso;omega)))<;>conv=>whnf)
 ·exact FIN.valueK h0 rfl (congrArg (SV.int _) (if_pos h).symm)
 refine CALL.aA [1] (h2) ?_;rintro r O nx ⟨rfl,rfl,rfl⟩;conv=>whnf
 repeat'((first|refine AU ?_|(refine IW ?_ ?_<;>intro h<;>try(exfalso;omega)))<;>conv=>whnf)
 exact FIN.valueK h0 rfl (congrArg (SV.int _) (if_neg (by simpa using h)).symm)
theorem Z4p(a za b zb:List Qd)(limA limB:Option Nat)(ha:a.length<=1152921504606846976)(hb:b.length<=1152921504606846976)(qa:Wf a)(qb:Wf b):Does prog tab 44 2 [.sl (.loc 0) 0 16 a.length limA, .sl (.loc 1) 0 16 b.length limB] [] [(0, .rows 16 ((a++za).map Zj)),(1, .rows 16 ((b++zb).map Zj))] (ValK 2 (.int .i64 (Vn a b))):=by
 have h1:=Z1u a za limA ha qa;have h2:=Z1u b zb limB hb qb;refine Does.enter Z1 call44 func44 rfl 21 rfl rfl [.tmp 4] rfl ?_;intro w0 F η0 h0;conv=>whnf
 refine CALL.aA [0] (h1) ?_;rintro r O nx ⟨rfl,rfl,rfl⟩;conv=>whnf
 repeat'((first|refine AU ?_|(refine IW ?_ ?_<;>intro h<;>try(exfalso;omega)))<;>conv=>whnf)
 ·exact FIN.valueK h0 rfl (congrArg (SV.int _) (if_pos h).symm)
 refine CALL.aA [1] (h2) ?_;rintro r O nx ⟨rfl,rfl,rfl⟩;conv=>whnf
 repeat'((first|refine AU ?_|(refine IW ?_ ?_<;>intro h<;>try(exfalso;omega)))<;>conv=>whnf)
 exact FIN.valueK h0 rfl (congrArg (SV.int _) (if_neg (by simpa using h)).symm)
abbrev Z0(l:List Qd):List LB:=setL cmpL (X4 l)
abbrev numT(m:List (LB×Int)):List (List SV):=UC KT intV m
theorem Zdg(m:List (LB×Int)):Zp (numT m)=true:=Z8q KT _ (fun _=>rfl) m
instance {m:List (LB×Int)}:Pl (numT m):=⟨Zdg m⟩
theorem Zdh{x:LB}{v:Int}{m:List (LB×Int)}:setM (false,[CK.str]) (flKey (SV.str x)) (SV.int .i64 v) (numT m)=numT (setA x v m):=ZcC KT intV x v m
theorem Zdi{x:LB}{v:Int}{m:List (LB×Int)}:setM (false,[CK.str]) (flKey (SV.str x)) (Yj (.int .i64 v)) (numT m)=numT (setA x v m):=ZcC KT intV x v m
def Vh(v:Int)(l:List LB)(m:List (LB×Int)):List (LB×Int):=l.foldl (fun m x=>setA x v m) m
theorem Zis{l z:List LB}{i k:Nat}(h:i<l.length)(e:k=i):((l++z).map Zb)[k]?=some (Zb l[i]):=by
 subst e;rw[List.getElem?_map,List.getElem?_append_left h,List.getElem?_eq_getElem h];rfl
end Go.Proofs.YtbfbokdccdagkaaGreatDoor
namespace Go.Proofs.YtbfbokdccdagkaaGreatDoor
open Go.Sx Go.Our
open Tryz
def Zdj:Plan:=(.take 0 1 (.take 1 1 (.take 2 1 (.take 4 1 (.take 5 1 (.take 6 1 (.take 7 1 (.take 9 1 (.take 8 2 (.take 10 1 (.take 11 2 (.take 12 2 (.fork 3 3 13 3 (Zv [(13,3),(14,0),(15,1),(16,0)]) (.fork 3 3 14 0 (Zv [(14,0),(15,1),(16,0)]) (Zv [(3,2),(15,1),(16,0)])))))))))))))))
theorem Z55{η:Env}{es:Nat}{rs:List (List SV)}{v:Value}(h:Den η (.arr es rs) v):Den η (.agg rs.flatten) v:=by
 simp only[Den]at h⊢;obtain⟨vs,h1,h2,h3⟩:=h;exact⟨vs,h1,Xr h2,h3⟩
theorem Z7A(q:Qd):Does prog tab 53 0 [.agg (Zj q)] [] [] (Val (.agg (Zj q))):=by
 refine Does.enter Z1 call53 func53 rfl 12 rfl rfl [.cell 2 93] rfl ?_;intro w0 F η0 h0;conv=>whnf
 repeat'((first|refine AU ?_|(refine IW ?_ ?_<;>intro h<;>try(exfalso;omega)))<;>conv=>whnf)
 exact FIN.weak (fun η w v H hd=>⟨η,List.prefix_rfl,H,Z55 hd⟩) (FIN.value h0 rfl rfl)
def Zi(n:Int):List SV:=[.int .i64 n]
instance :PlF Zi:=⟨fun _=>rfl⟩
theorem Vo{l:List Int}{i:Nat}(h:i<l.length):(l.map Zi)[i]?=some (Zi l[i]):=by rw[List.getElem?_map,List.getElem?_eq_getElem h];rfl
theorem Yb(l:List Int)(x:Int)(hl:l.length<=1152921504606846976):Does prog tab 92 1 [.sl (.loc 0) 0 1 l.length none, .int .i64 x] [] [(0, .rows 1 (l.map Zi))] (ValK 1 (.bool (decide (x∈l)))):=by
 have hix:Does prog tab 124 1 [.sl (.loc 0) 0 1 l.length none, .int .i64 x] [] [(0, .rows 1 (l.map Zi))] (fun r O nx=>O=[]/\nx=1/\∃k:Int,r= .int .i64 k/\(0<=k<->x∈l)):=by
  refine Does.enter Z1 call124 func124 rfl 19 rfl rfl [.tmp 4] rfl ?_;intro w0 F η0 h0;conv=>whnf
  repeat'((first|refine AU ?_|(refine IW ?_ ?_<;>intro h<;>try(exfalso;omega)))<;>conv=>whnf)
  refine LOOP.go Z1 [0,1,7] (X:=Nat) (fun c=>c<=l.length/\x∉l.take c) (fun c=>[(8, .int .i64 (c:Int))]) (fun c=>[]) 1 (fun c=>l.length-c) 0 ⟨by omega,by simp⟩ ?_;conv=>whnf
  refine⟨by exact GOES.cA h0,?_⟩;rintro c ⟨hc,hn⟩;conv=>whnf
  refine IF.mk (fun h=>?_) (fun h=>?_)
  ·have hlt:c<l.length:=by simp at h;omega
   conv=>whnf
   repeat'((first|(refine GET.at (row:=Zi l[c]) (by rw[Int.toNat_natCast,Nat.zero_add];exact Vo hlt) ?_;conv=>whnf)|refine AU ?_|(refine IW ?_ ?_<;>intro h<;>try(exfalso;omega)))<;>conv=>whnf)
   ·exact FIN.val h0 rfl ⟨rfl,rfl,_,rfl,by simp;rw[h];exact List.getElem_mem _⟩
   ·refine⟨c+1,⟨by omega,fun hm=>?_⟩,by omega,?_⟩
    ·rw[List.take_succ_eq_append_getElem hlt]at hm;rcases List.mem_append.1 hm with hm|hm
     ·exact hn hm
     ·exact h (List.mem_singleton.1 hm)
    conv=>whnf
    exact GOES.cA h0
  ·have h:c=l.length:=by simp at h;omega
   subst h;rw[List.take_length]at hn;repeat'((first|refine AU ?_|(refine IW ?_ ?_<;>intro h<;>try(exfalso;omega)))<;>conv=>whnf)
   exact FIN.val h0 rfl ⟨rfl,rfl,_,rfl,by simp[hn]⟩
 refine Does.enter Z1 call92 func92 rfl 9 rfl rfl [.tmp 4] rfl ?_;intro w0 F η0 h0;conv=>whnf
 repeat'((first|refine AU ?_|(refine IW ?_ ?_<;>intro h<;>try(exfalso;omega)))<;>conv=>whnf)
 refine CALL.aA [0] (hix) ?_;rintro r O nx ⟨rfl,rfl,k,rfl,hk⟩;conv=>whnf
 repeat'((first|refine AU ?_|(refine IW ?_ ?_<;>intro h<;>try(exfalso;omega)))<;>conv=>whnf)
 refine FIN.valueK h0 rfl (congrArg SV.bool ?_);by_cases hm:x∈l
 ·rw[decide_eq_true hm,decide_eq_true (hk.2 hm)]
 ·rw[decide_eq_false hm,decide_eq_false fun h=>hm (hk.1 h)]
def fA(m:List (LB×Int))(x:LB):Int:=(getA x m).getD 0
def Zit(q:Qd)(a b c d:Int):List SV:=[.int .i64 q.s.k, .str q.s.t, .str q.s.y, .str q.s.l, .int .i64 q.p.k, .str q.p.t, .str q.p.y, .str q.p.l, .int .i64 q.o.k, .str q.o.t, .str q.o.y, .str q.o.l, .int .i64 q.g.k, .str q.g.t, .str q.g.y, .str q.g.l, .int .i64 a, .int .i64 b, .int .i64 c, .int .i64 d]
def ownK(f:LB->Int)(q:Qd)(k:Nat):List Int:=((ZG q).take k).foldl (ownT f) []
def wBox(nl n ng:Nat):Hp:= .box [.sl (.loc 3) 0 1 nl none, .val (.slice none 0 0), .sl (.loc 1) 0 1 n none, .sl (.loc 4) 0 1 ng none, .int .i64 0]
theorem Z0o(f:LB->Int)(q:Qd){k:Nat}(t:Tm)(h:(ZG q)[k]?=some t):ownK f q (k+1)=ownT f (ownK f q k) t:=by
 have hl:=(List.getElem?_eq_some_iff.1 h).1;unfold ownK;rw[JH _ _ _ hl];congr 1;exact(List.getElem?_eq_some_iff.1 h).2
theorem Z0p(f:LB->Int)(q:Qd){k:Nat}(h:k<=4):(ownK f q k).length<=4:=by
 have step:∀acc t,(ownT f acc t).length<=acc.length+1:=fun acc t=>by
  unfold ownT;split
  ·split<;>simp
  ·simp
 have:∀(l:List Tm) (acc:List Int),(l.foldl (ownT f) acc).length<=acc.length+l.length:=by
  intro l
  induction l with
  |nil=>intro acc;simp
  |cons t l ih=>intro acc;have:=ih (ownT f acc t);have:=step acc t;simp only[List.foldl_cons,List.length_cons];omega
 have h2:=this ((ZG q).take k) [];rw[List.length_take]at h2;simp only[List.length_nil]at h2;unfold ownK;omega
structure PX where
 k:Nat
 a:Int
 b:Int
 c:Int
 d:Int
 own:List Int
structure PInv(f:LB->Int)(q:Qd)(x:PX):Prop where
 k:x.k<=4
 a:0<x.k->x.a=numM f q.s
 b:1<x.k->x.b=numM f q.p
 c:2<x.k->x.c=numM f q.o
 d:3<x.k->x.d=numM f q.g
 own:x.own=ownK f q x.k
theorem Za1{f:LB->Int}{acc:List Int}{t:Tm}(h:¬t.k=2):ownT f acc t=acc:=by unfold ownT;rw[if_neg h]
theorem Z1v{f:LB->Int}{acc:List Int}{t:Tm}(h:t.k=2)(hm:f t.t∈acc):ownT f acc t=acc:=by unfold ownT;rw[if_pos h,if_pos hm]
theorem Z1w{f:LB->Int}{acc:List Int}{t:Tm}(h:t.k=2)(hm:f t.t∉acc):ownT f acc t=acc++ [f t.t]:=by unfold ownT;rw[if_pos h,if_neg hm]
theorem Jq{f:LB->Int}{t:Tm}(h:t.k=2):numM f t=f t.t:=by unfold numM;rw[if_pos h]
theorem VP{f:LB->Int}{t:Tm}(h:¬t.k=2):numM f t= -1:=by unfold numM;rw[if_neg h]
theorem Z64{m:List (LB×Int)}{x:LB}{i:Nat}{v:Int}(h:ixA x m=some (i,v)):fA m x=v:=by unfold fA;rw[Z1Z h];rfl
theorem Z65{m:List (LB×Int)}{x:LB}(h:ixA x m=none):fA m x=0:=by unfold fA;rw[Z9I h];rfl
theorem Z0q(l:List Int)(v:Int){n:Nat}(hn:n=l.length):List.take n (l.map Zi)++List.take 1 (List.drop 0 [[SV.int .i64 v]])=(l++ [v]).map Zi:=by
 subst hn;rw[List.take_of_length_le (by simp)];simp[Zi]
theorem Zbg{N:Nat}{s:Sd}{I:List (List Sd)}{n:Int}(h:∀l∈I,l.length<=N):∀l∈putN s I n,l.length<=N+1:=by
 intro l hl;unfold putN at hl;obtain⟨i,hi,rfl⟩:=List.mem_iff_getElem.1 hl;rw[List.getElem_modify];have hi':i<I.length:=by simpa using hi
 have:=h _ (List.getElem_mem hi');split
 ·simp only[List.length_append,List.length_singleton];omega
 ·omega
theorem J8{s:Sd}:∀{L:List Int} {N:Nat} {I:List (List Sd)},(∀l∈I,l.length<=N)->∀l∈L.foldl (putN s) I,l.length<=N+L.length
 | [],N,I,h=>h
 |n::L,N,I,h=>fun l hl=>by
  have:=J8 (L:=L) (Zbg (s:=s) (n:=n) h) l hl;simp only[List.length_cons];omega
theorem VQ{rs:List (List DC)}{r:Nat}{d:DC}{sv:SV}(h:rs[r]?=some [d]):Z1E (setC rs r 0 (.v sv)) r 0=some (r, .v sv):=by
 unfold Z1E;rw[ZF,if_pos rfl,h];rfl
theorem Z0r{I:List (List Sd)}{n:Int}{s:Sd}{sv:SV}{rows:List (List SV)}{k i:Nat}(hn:n.toNat<I.length)(hi:i=n.toNat)(hr:rows.take k=(I[n.toNat]++ [s]).map XP):
 ((setC (inD I) n.toNat 0 (.v sv)).modify i fun row=>row.set 0 (.kid 20 (rows.take k)))=inD (putN s I n):=by
 subst hi;show setC _ _ _ _=_
 rw[setC_setC,hr];apply List.ext_getElem?;intro a;rw[ZF];unfold inD putN;simp only[List.getElem?_map,List.getElem?_modify];by_cases ha:a=n.toNat
 ·subst ha;rw[if_pos rfl,List.getElem?_eq_getElem hn];simp[ZcD]
 ·rw[if_neg ha];cases I[a]?<;>simp[Ne.symm ha]
theorem Za2(q:Qd)(m:List (LB×Int))(ins:List (List Sd))(nl ng n:Nat)(hn:n=ins.length)(hin:ZcH ins.length (ownM (fA m) q))(hl:∀l∈ins,l.length<=67108864)(hil:ins.length<=67108864):
 Does prog tab 67 5 [.ptr (.loc 0) 0 0 0, .agg (Zj q), .mp (.loc 2)] [(0,wBox nl n ng),(1, .deep false 1 (inD ins))] [(2, .mp (numT m))]
 (fun r O nx=>r= .bool (decide (0< (ownM (fA m) q).length))/\O=[(0,wBox nl n ng),(1, .deep false 1 (inD (putS (fA m) ins q)))]/\nx=5):=by
 subst hn;refine Does.enter Z1 call67 func67 rfl 76 rfl rfl [.tmp 6] rfl ?_;intro w0 F η0 h0;conv=>whnf
 repeat'((first|refine CALL.value (Z7A q) rfl rfl ?_|refine AU ?_|(refine IW ?_ ?_<;>intro h<;>try(exfalso;omega)))<;>conv=>whnf)
 refine LOOP.nil 8 1 rfl ?_;refine LOOP.gok Z1 [0,2,7,17] [0,1,5] (X:=PX) (PInv (fA m) q) (fun x=>[(18, .int .i64 (x.k:Int)),(8, .sl (.loc 7) 0 1 x.own.length none)]) (fun x=>[(6, .box (Zit q x.a x.b x.c x.d)),(7, .rows 1 (x.own.map Zi))]) 8 (fun x=>4-x.k) ⟨0,0,0,0,0,[]⟩ ⟨by simp,by simp,by simp,by simp,by simp,rfl⟩ ?_;conv=>whnf
 refine⟨by exact GOES.cA h0,?_⟩;rintro⟨k,a,b,c,d,own⟩ ⟨hk4,ha,hb,hc,hd,ho⟩;dsimp only at hk4 ha hb hc hd ho⊢;conv=>whnf
 refine IF.mk (fun h=>?_) (fun h=>?_)
 ·have hlt:k<4:=by simp at h;omega
  have hol:=Z0p (fA m) q hk4;rw[<-ho]at hol;have hkk:k=0\/k=1\/k=2\/k=3:=by omega
  rcases hkk with rfl|rfl|rfl|rfl
  ·have hst:=Z0o (fA m) q (k:=0) q.s rfl;conv=>whnf
   repeat'((first|refine AU ?_|(refine IW ?_ ?_<;>intro h<;>try(exfalso;omega)))<;>conv=>whnf)
   ·have h2:=h;refine NEED.mk ⟨KT.ok _,Jc KT intV _⟩ ?_;refine FIND.A KT intV q.s.t m (fun i v hf=>?_) (fun hf=>?_)
    ·have hv:=Z64 hf;have hn:v=numM (fA m) q.s:=by rw[Jq h2,hv]
     conv=>whnf
     repeat'((first|refine AU ?_|(refine IW ?_ ?_<;>intro h<;>try(exfalso;omega)))<;>conv=>whnf)
     refine CALL.aA [7] (Yb own v (by omega)) ?_;rintro r O nx ⟨rfl,rfl,rfl⟩;conv=>whnf
     repeat'((first|refine AU ?_|(refine IW ?_ ?_<;>intro h<;>try(exfalso;omega)))<;>conv=>whnf)
     ·rw[Z0q own _ rfl];refine⟨⟨0+1,v,b,c,d,own++ [v]⟩,⟨by dsimp only;omega,fun _=>hn,fun h=>by simp at h,fun h=>by simp at h,fun h=>by simp at h,by dsimp only;rw[hst,Z1w h2 (by rw[hv,<-ho];exact h),ho,hv]⟩,by dsimp only;omega,?_⟩;conv=>whnf
      exact GOES.kA h0 [5,6,10]
     ·refine⟨⟨0+1,v,b,c,d,own⟩,⟨by dsimp only;omega,fun _=>hn,fun h=>by simp at h,fun h=>by simp at h,fun h=>by simp at h,by dsimp only;rw[hst,Z1v h2 (by rw[hv,<-ho];exact h),ho]⟩,by dsimp only;omega,?_⟩;conv=>whnf
      exact GOES.cA h0
    ·have hv:=Z65 hf;have hn:0=numM (fA m) q.s:=by rw[Jq h2,hv]
     conv=>whnf
     repeat'((first|refine AU ?_|(refine IW ?_ ?_<;>intro h<;>try(exfalso;omega)))<;>conv=>whnf)
     refine CALL.aA [7] (Yb own 0 (by omega)) ?_;rintro r O nx ⟨rfl,rfl,rfl⟩;conv=>whnf
     repeat'((first|refine AU ?_|(refine IW ?_ ?_<;>intro h<;>try(exfalso;omega)))<;>conv=>whnf)
     ·rw[Z0q own _ rfl];refine⟨⟨0+1,0,b,c,d,own++ [0]⟩,⟨by dsimp only;omega,fun _=>hn,fun h=>by simp at h,fun h=>by simp at h,fun h=>by simp at h,by dsimp only;rw[hst,Z1w h2 (by rw[hv,<-ho];exact h),ho,hv]⟩,by dsimp only;omega,?_⟩;conv=>whnf
      exact GOES.kA h0 [5,6,10]
     ·refine⟨⟨0+1,0,b,c,d,own⟩,⟨by dsimp only;omega,fun _=>hn,fun h=>by simp at h,fun h=>by simp at h,fun h=>by simp at h,by dsimp only;rw[hst,Z1v h2 (by rw[hv,<-ho];exact h),ho]⟩,by dsimp only;omega,?_⟩;conv=>whnf
      exact GOES.cA h0
   ·refine⟨⟨0+1,-1,b,c,d,own⟩,⟨by dsimp only;omega,fun _=>(VP h).symm,fun h=>by simp at h,fun h=>by simp at h,fun h=>by simp at h,by dsimp only;rw[hst,Za1 h];exact ho⟩,by dsimp only;omega,?_⟩;conv=>whnf
    exact GOES.cA h0
  ·have hst:=Z0o (fA m) q (k:=1) q.p rfl;conv=>whnf
   repeat'((first|refine AU ?_|(refine IW ?_ ?_<;>intro h<;>try(exfalso;omega)))<;>conv=>whnf)
   ·have h2:=h;refine NEED.mk ⟨KT.ok _,Jc KT intV _⟩ ?_;refine FIND.A KT intV q.p.t m (fun i v hf=>?_) (fun hf=>?_)
    ·have hv:=Z64 hf;have hn:v=numM (fA m) q.p:=by rw[Jq h2,hv]
     conv=>whnf
     repeat'((first|refine AU ?_|(refine IW ?_ ?_<;>intro h<;>try(exfalso;omega)))<;>conv=>whnf)
     refine CALL.aA [7] (Yb own v (by omega)) ?_;rintro r O nx ⟨rfl,rfl,rfl⟩;conv=>whnf
     repeat'((first|refine AU ?_|(refine IW ?_ ?_<;>intro h<;>try(exfalso;omega)))<;>conv=>whnf)
     ·rw[Z0q own _ rfl];refine⟨⟨1+1,a,v,c,d,own++ [v]⟩,⟨by dsimp only;omega,fun _=>ha (by omega),fun _=>hn,fun h=>by simp at h,fun h=>by simp at h,by dsimp only;rw[hst,Z1w h2 (by rw[hv,<-ho];exact h),ho,hv]⟩,by dsimp only;omega,?_⟩;conv=>whnf
      exact GOES.kA h0 [5,6,10]
     ·refine⟨⟨1+1,a,v,c,d,own⟩,⟨by dsimp only;omega,fun _=>ha (by omega),fun _=>hn,fun h=>by simp at h,fun h=>by simp at h,by dsimp only;rw[hst,Z1v h2 (by rw[hv,<-ho];exact h),ho]⟩,by dsimp only;omega,?_⟩;conv=>whnf
      exact GOES.cA h0
    ·have hv:=Z65 hf;have hn:0=numM (fA m) q.p:=by rw[Jq h2,hv]
     conv=>whnf
     repeat'((first|refine AU ?_|(refine IW ?_ ?_<;>intro h<;>try(exfalso;omega)))<;>conv=>whnf)
     refine CALL.aA [7] (Yb own 0 (by omega)) ?_;rintro r O nx ⟨rfl,rfl,rfl⟩;conv=>whnf
     repeat'((first|refine AU ?_|(refine IW ?_ ?_<;>intro h<;>try(exfalso;omega)))<;>conv=>whnf)
     ·rw[Z0q own _ rfl];refine⟨⟨1+1,a,0,c,d,own++ [0]⟩,⟨by dsimp only;omega,fun _=>ha (by omega),fun _=>hn,fun h=>by simp at h,fun h=>by simp at h,by dsimp only;rw[hst,Z1w h2 (by rw[hv,<-ho];exact h),ho,hv]⟩,by dsimp only;omega,?_⟩;conv=>whnf
      exact GOES.kA h0 [5,6,10]
     ·refine⟨⟨1+1,a,0,c,d,own⟩,⟨by dsimp only;omega,fun _=>ha (by omega),fun _=>hn,fun h=>by simp at h,fun h=>by simp at h,by dsimp only;rw[hst,Z1v h2 (by rw[hv,<-ho];exact h),ho]⟩,by dsimp only;omega,?_⟩;conv=>whnf
      exact GOES.cA h0
   ·refine⟨⟨1+1,a,-1,c,d,own⟩,⟨by dsimp only;omega,fun _=>ha (by omega),fun _=>(VP h).symm,fun h=>by simp at h,fun h=>by simp at h,by dsimp only;rw[hst,Za1 h];exact ho⟩,by dsimp only;omega,?_⟩;conv=>whnf
    exact GOES.cA h0
  ·have hst:=Z0o (fA m) q (k:=2) q.o rfl;conv=>whnf
   repeat'((first|refine AU ?_|(refine IW ?_ ?_<;>intro h<;>try(exfalso;omega)))<;>conv=>whnf)
   ·have h2:=h;refine NEED.mk ⟨KT.ok _,Jc KT intV _⟩ ?_;refine FIND.A KT intV q.o.t m (fun i v hf=>?_) (fun hf=>?_)
    ·have hv:=Z64 hf;have hn:v=numM (fA m) q.o:=by rw[Jq h2,hv]
     conv=>whnf
     repeat'((first|refine AU ?_|(refine IW ?_ ?_<;>intro h<;>try(exfalso;omega)))<;>conv=>whnf)
     refine CALL.aA [7] (Yb own v (by omega)) ?_;rintro r O nx ⟨rfl,rfl,rfl⟩;conv=>whnf
     repeat'((first|refine AU ?_|(refine IW ?_ ?_<;>intro h<;>try(exfalso;omega)))<;>conv=>whnf)
     ·rw[Z0q own _ rfl];refine⟨⟨2+1,a,b,v,d,own++ [v]⟩,⟨by dsimp only;omega,fun _=>ha (by omega),fun _=>hb (by omega),fun _=>hn,fun h=>by simp at h,by dsimp only;rw[hst,Z1w h2 (by rw[hv,<-ho];exact h),ho,hv]⟩,by dsimp only;omega,?_⟩;conv=>whnf
      exact GOES.kA h0 [5,6,10]
     ·refine⟨⟨2+1,a,b,v,d,own⟩,⟨by dsimp only;omega,fun _=>ha (by omega),fun _=>hb (by omega),fun _=>hn,fun h=>by simp at h,by dsimp only;rw[hst,Z1v h2 (by rw[hv,<-ho];exact h),ho]⟩,by dsimp only;omega,?_⟩;conv=>whnf
      exact GOES.cA h0
    ·have hv:=Z65 hf;have hn:0=numM (fA m) q.o:=by rw[Jq h2,hv]
     conv=>whnf
     repeat'((first|refine AU ?_|(refine IW ?_ ?_<;>intro h<;>try(exfalso;omega)))<;>conv=>whnf)
     refine CALL.aA [7] (Yb own 0 (by omega)) ?_;rintro r O nx ⟨rfl,rfl,rfl⟩;conv=>whnf
     repeat'((first|refine AU ?_|(refine IW ?_ ?_<;>intro h<;>try(exfalso;omega)))<;>conv=>whnf)
     ·rw[Z0q own _ rfl];refine⟨⟨2+1,a,b,0,d,own++ [0]⟩,⟨by dsimp only;omega,fun _=>ha (by omega),fun _=>hb (by omega),fun _=>hn,fun h=>by simp at h,by dsimp only;rw[hst,Z1w h2 (by rw[hv,<-ho];exact h),ho,hv]⟩,by dsimp only;omega,?_⟩;conv=>whnf
      exact GOES.kA h0 [5,6,10]
     ·refine⟨⟨2+1,a,b,0,d,own⟩,⟨by dsimp only;omega,fun _=>ha (by omega),fun _=>hb (by omega),fun _=>hn,fun h=>by simp at h,by dsimp only;rw[hst,Z1v h2 (by rw[hv,<-ho];exact h),ho]⟩,by dsimp only;omega,?_⟩;conv=>whnf
      exact GOES.cA h0
   ·refine⟨⟨2+1,a,b,-1,d,own⟩,⟨by dsimp only;omega,fun _=>ha (by omega),fun _=>hb (by omega),fun _=>(VP h).symm,fun h=>by simp at h,by dsimp only;rw[hst,Za1 h];exact ho⟩,by dsimp only;omega,?_⟩;conv=>whnf
    exact GOES.cA h0
  ·have hst:=Z0o (fA m) q (k:=3) q.g rfl;conv=>whnf
   repeat'((first|refine AU ?_|(refine IW ?_ ?_<;>intro h<;>try(exfalso;omega)))<;>conv=>whnf)
   ·have h2:=h;refine NEED.mk ⟨KT.ok _,Jc KT intV _⟩ ?_;refine FIND.A KT intV q.g.t m (fun i v hf=>?_) (fun hf=>?_)
    ·have hv:=Z64 hf;have hn:v=numM (fA m) q.g:=by rw[Jq h2,hv]
     conv=>whnf
     repeat'((first|refine AU ?_|(refine IW ?_ ?_<;>intro h<;>try(exfalso;omega)))<;>conv=>whnf)
     refine CALL.aA [7] (Yb own v (by omega)) ?_;rintro r O nx ⟨rfl,rfl,rfl⟩;conv=>whnf
     repeat'((first|refine AU ?_|(refine IW ?_ ?_<;>intro h<;>try(exfalso;omega)))<;>conv=>whnf)
     ·rw[Z0q own _ rfl];refine⟨⟨3+1,a,b,c,v,own++ [v]⟩,⟨by dsimp only;omega,fun _=>ha (by omega),fun _=>hb (by omega),fun _=>hc (by omega),fun _=>hn,by dsimp only;rw[hst,Z1w h2 (by rw[hv,<-ho];exact h),ho,hv]⟩,by dsimp only;omega,?_⟩;conv=>whnf
      exact GOES.kA h0 [5,6,10]
     ·refine⟨⟨3+1,a,b,c,v,own⟩,⟨by dsimp only;omega,fun _=>ha (by omega),fun _=>hb (by omega),fun _=>hc (by omega),fun _=>hn,by dsimp only;rw[hst,Z1v h2 (by rw[hv,<-ho];exact h),ho]⟩,by dsimp only;omega,?_⟩;conv=>whnf
      exact GOES.cA h0
    ·have hv:=Z65 hf;have hn:0=numM (fA m) q.g:=by rw[Jq h2,hv]
     conv=>whnf
     repeat'((first|refine AU ?_|(refine IW ?_ ?_<;>intro h<;>try(exfalso;omega)))<;>conv=>whnf)
     refine CALL.aA [7] (Yb own 0 (by omega)) ?_;rintro r O nx ⟨rfl,rfl,rfl⟩;conv=>whnf
     repeat'((first|refine AU ?_|(refine IW ?_ ?_<;>intro h<;>try(exfalso;omega)))<;>conv=>whnf)
     ·rw[Z0q own _ rfl];refine⟨⟨3+1,a,b,c,0,own++ [0]⟩,⟨by dsimp only;omega,fun _=>ha (by omega),fun _=>hb (by omega),fun _=>hc (by omega),fun _=>hn,by dsimp only;rw[hst,Z1w h2 (by rw[hv,<-ho];exact h),ho,hv]⟩,by dsimp only;omega,?_⟩;conv=>whnf
      exact GOES.kA h0 [5,6,10]
     ·refine⟨⟨3+1,a,b,c,0,own⟩,⟨by dsimp only;omega,fun _=>ha (by omega),fun _=>hb (by omega),fun _=>hc (by omega),fun _=>hn,by dsimp only;rw[hst,Z1v h2 (by rw[hv,<-ho];exact h),ho]⟩,by dsimp only;omega,?_⟩;conv=>whnf
      exact GOES.cA h0
   ·refine⟨⟨3+1,a,b,c,-1,own⟩,⟨by dsimp only;omega,fun _=>ha (by omega),fun _=>hb (by omega),fun _=>hc (by omega),fun _=>(VP h).symm,by dsimp only;rw[hst,Za1 h];exact ho⟩,by dsimp only;omega,?_⟩;conv=>whnf
    exact GOES.cA h0
 ·have hk:k=4:=by simp at h;omega
  subst hk;have ha:=ha (by omega);have hb:=hb (by omega);have hc:=hc (by omega);have hd:=hd (by omega);subst ha hb hc hd;have hol:=ZcG (fA m) q;have hoe:own=ownM (fA m) q:=ho;rw[show putS (fA m) ins q=own.foldl (putN (sdM (fA m) q)) ins by rw[hoe];rfl,<-hoe];rw[<-hoe]at hin hol;clear hoe ho hk4 h;conv=>whnf
  repeat'((first|refine AU ?_|(refine IW ?_ ?_<;>intro h<;>try(exfalso;omega)))<;>conv=>whnf)
  refine LOOP.gok Z1 [0,7,8,50,51] [0,6,7] (X:=Nat) (fun j=>j<=own.length) (fun j=>[(52, .int .i64 (j:Int))]) (fun j=>[(1, .deep false 1 (inD ((own.take j).foldl (putN (sdM (fA m) q)) ins)))]) 8 (fun j=>own.length-j) 0 (by omega) ?_;conv=>whnf
  refine⟨by exact GOES.cA h0,?_⟩;rintro j hj;conv=>whnf
  refine IF.mk (fun h=>?_) (fun h=>?_)
  ·have hlt:j<own.length:=by simp at h;omega
   obtain⟨hn0,hn1⟩:=hin _ (List.getElem_mem hlt);have hlen:=Vg (sdM (fA m) q) (own.take j) ins;have hbd:=J8 (s:=sdM (fA m) q) (L:=own.take j) hl;rw[List.length_take]at hbd;have hto:=JH (putN (sdM (fA m) q)) ins own hlt;generalize(own.take j).foldl (putN (sdM (fA m) q)) ins=I at hlen hto hbd;have hg:=Vo hlt;generalize own[j]=n at hn0 hn1 hto hg;conv=>whnf
   repeat'((first|(refine GET.at (row:=Zi n) (by rw[Int.toNat_natCast,Nat.zero_add];exact hg) ?_;conv=>whnf)|refine AU ?_|(refine IW ?_ ?_<;>intro h<;>try(exfalso;omega)))<;>conv=>whnf)
   have hnl:n.toNat<I.length:=by omega
   have hIn:(List.map XP I[n.toNat]).length<=67108868:=by
    rw[List.length_map];have:=hbd _ (List.getElem_mem hnl);omega
   refine GHO.drawn (GHO.take 1 n.toNat 0 rfl (Xw hnl) rfl) ?_;repeat'((first|(show DRAWN _ _ _ _ _ _ _;first|refine DRAWN.of (id:=15) Z1 mixed Zdj (by kernel_rfl) ?_)|refine ADD.mk (fun _ _=>?_)|refine AD ?_|refine FORK.mk ?_ ?_|(refine GET.at (by rw[Nat.zero_add];exact V3 (Xw hnl)) ?_;conv=>whnf)|(refine FINDD.at (by rw[Nat.zero_add];exact VQ (Xw hnl)) ?_;conv=>whnf)|refine AU ?_|(refine IW ?_ ?_<;>intro h<;>try(exfalso;omega)))<;>conv=>whnf)
   all_goals rw[Z0r hnl (Nat.zero_add _) (s:=sdM (fA m) q) (by rw[List.take_of_length_le (by simp),List.take_of_length_le (by simp)];simp[XP,sdM])]
   all_goals refine⟨j+1,by omega,by omega,?_⟩
   all_goals rw[hto]
   all_goals (conv=>whnf)
   all_goals exact GOES.cA h0
  ·have hj:j=own.length:=by simp at h;omega
   subst hj;rw[List.take_length];conv=>whnf
   repeat'((first|refine AU ?_|(refine IW ?_ ?_<;>intro h<;>try(exfalso;omega)))<;>conv=>whnf)
   refine FIN.aA h0 [] (.bool (decide ((0:Int)< (own.length:Int)))) [(0,wBox nl ins.length ng),(1, .deep false 1 (inD (own.foldl (putN (sdM (fA m) q)) ins)))] ⟨?_,rfl,rfl⟩;exact congrArg SV.bool (by simp)
def V7(b:Int)(A:List LB):Nat->List (LB×Int)
 |0=>[]
 |i+1=>match A[i]? with
  |some x=>setA x (b+i) (V7 b A i)
  |none=>V7 b A i
theorem Ue{b:Int}{A:List LB}{i:Nat}(h:i<A.length):V7 b A (i+1)=setA A[i] (b+i) (V7 b A i):=by
 rw[V7,List.getElem?_eq_getElem h]
theorem Z6e{b:Int}{A:List LB}(hn:A.Nodup):∀(n:Nat) (x:LB),n<=A.length->getA x (V7 b A n)=if h:A.idxOf x<n then some (b+(A.idxOf x:Nat))else none
 |0,x,_=>by simp[V7,getA]
 |n+1,x,h=>by
  rw[Ue (by omega),Z5I,Z6e hn n x (by omega)];have hidx:A.idxOf A[n]=n:=hn.idxOf_getElem n (by omega);by_cases e:x=A[n]
  ·subst e;rw[if_pos rfl,dif_pos (by omega),hidx]
  ·rw[if_neg e]
   have hne:A.idxOf x≠n:=fun h2=>e (by
    have hlt:A.idxOf x<A.length:=by omega
    have:=List.getElem_idxOf hlt
    rw[<-this];congr 1)
   by_cases h3:A.idxOf x<n
   ·rw[dif_pos h3,dif_pos (by omega)]
   ·rw[dif_neg h3,dif_neg (by omega)]
def ixF(b:Int)(A:List LB)(x:LB):Int:=if x∈A then b+(A.idxOf x:Nat)else 0
theorem Zgj{b:Int}{A:List LB}(hn:A.Nodup):fA (V7 b A A.length)=ixF b A:=by
 funext x;unfold fA ixF;rw[Z6e hn _ x (Nat.le_refl _)];by_cases h:x∈A
 ·rw[dif_pos (List.idxOf_lt_length_of_mem h),if_pos h];rfl
 ·rw[dif_neg (by rw[List.idxOf_lt_length_iff];exact h),if_neg h];rfl
theorem Zgk(I:List (List Sd)){n:Nat}(hn:n=I.length){T:Tab}{e:TypeId}(hT:appV T e (.val (.slice none 0 0))= .kid 20 []):(inD I).take n++List.map (fun row=>row.map (appV T e)) (List.take 1 (List.drop 0 [[Yj (Value.slice none 0 0)]]))=inD (I++ [[]]):=by
 subst hn;rw[List.take_of_length_le (by simp[inD])];simp only[inD,List.map_append,List.map_cons,List.map_nil,ZcD,List.drop_zero,List.take_succ_cons,List.take_zero,Yj,hT]
theorem Z8R(A:List LB){i:Nat}(h:i<A.length):List.take i ((A.take i).map Zb)++List.take 1 (List.drop 0 [[SV.str A[i]]])=(A.take (i+1)).map Zb:=by
 rw[List.take_of_length_le (by rw[List.length_map,List.length_take];omega),List.take_succ_eq_append_getElem h,List.map_append]
 rfl
theorem X9(f:LB->Int):∀(l:List Qd) (I:List (List Sd)),(l.foldl (putS f) I).length=I.length
 | [],_=>rfl
 |q::l,I=>by rw[List.foldl_cons,X9 f l,Z5K]
theorem V4{f:LB->Int}:∀{l:List Qd} {N:Nat} {I:List (List Sd)},(∀x∈I,x.length<=N)->∀x∈l.foldl (putS f) I,x.length<=N+l.length*4
 | [],N,I,h=>h
 |q::l,N,I,h=>fun x hx=>by
  have h1:=J8 (s:=sdM f q) (L:=ownM f q) h;have h2:=ZcG f q;have:=V4 (f:=f) (l:=l) (N:=N+4) (I:=putS f I q) (fun y hy=>Nat.le_trans (h1 y hy) (by omega)) x hx;simp only[List.length_cons];omega
def VC(f:LB->Int)(l:List Qd):List Qd:=l.filter fun q=>decide (ownM f q=[])
theorem Z3V(f:LB->Int){l:List Qd}{j:Nat}(h:j<l.length):VC f (l.take (j+1))=if ownM f l[j]=[]then VC f (l.take j)++ [l[j]]else VC f (l.take j):=by
 unfold VC;rw[List.take_succ_eq_append_getElem h,List.filter_append];by_cases e:ownM f l[j]=[]
 ·rw[if_pos e];simp[e]
 ·rw[if_neg e];simp[e]
theorem Zdx{l z:List Qd}{i k:Nat}(h:i<l.length)(e:k=i):((l++z).map Zj)[k]?=some (Zj l[i]):=by
 subst e;rw[List.getElem?_map,List.getElem?_append_left h,List.getElem?_eq_getElem h];rfl
theorem Zdy(G:List Qd)(q:Qd){n:Nat}(hn:n=G.length):List.take n (G.map Zj)++List.take 1 (List.drop 0 [[.int .i64 q.s.k, .str q.s.t, .str q.s.y, .str q.s.l, .int .i64 q.p.k, .str q.p.t, .str q.p.y, .str q.p.l, .int .i64 q.o.k, .str q.o.t, .str q.o.y, .str q.o.l, .int .i64 q.g.k, .str q.g.t, .str q.g.y, .str q.g.l]])=(G++ [q]).map Zj:=by
 subst hn;rw[List.take_of_length_le (by simp),List.map_append]
 rfl
theorem Uf{l c:Int}{b:Nat}(B:Nat)(hb:Nat.ble b B=true)(h1:0<=l)(h2:l<=c)(h3:c<=9223372036854775807)(h4:B*c<=281474976710656):0<=l/\l<=c/\c<=9223372036854775807/\(b:Int)*c<=281474976710656:=
 ⟨h1,h2,h3,Int.le_trans (Int.mul_le_mul_of_nonneg_right (by exact_mod_cast Nat.le_of_ble_eq_true hb) (Int.le_trans h1 h2)) h4⟩
def V5(l:List Qd):List (List Sd):=l.foldl (putS (ixF 0 (Z0 l))) (List.replicate (Z0 l).length [])
end Go.Proofs.YtbfbokdccdagkaaGreatDoor
