/- Part 19: Tag8. Conditions: as each part says. -/
import Derived.Test.YtlcbipfmodcedaaGreatDoorRfn16
set_option linter.unusedVariables false
set_option linter.unusedSimpArgs false
set_option maxRecDepth 20000
set_option maxHeartbeats 8000000
namespace Go.Proofs.YtlcbipfmodcedaaGreatDoor
open Go.Sx Go.Our
open Tryz
theorem ZhV(s:List UInt8):(Z4 s !=[120])=!ZY s:=by rw[X0];rfl
def rd6'(i m:Nat):Hp:= .box [.sl (.loc 2) i 1 m none]
def tz6:Hp:= .box [.str [], .str [], .str [], .str [], .val (.slice none 0 0), .val (.slice none 0 0), .str []]
def frT:Fr:=[(2, .ptr (.loc 0) 0 0 0),(4, .ptr (.loc 1) 0 0 0),(5, .ptr (.loc 3) 0 0 0)]
def OT(ps:List (List UInt8))(a:Nat)(L E S R:List UInt8):Hps:=[(0,tz6),(1,tg6 L E S R 4 0 5 0 []),(2, .rows 1 (ps.map Zc)),(3,rd6' a (ps.length-a)),(4, .rows 1 []),(5, .rows 1 [])]
def Z0H(l:List (List UInt8)):Bool:=match YN [] l with
 |none=>false
 |some (l,seen)=>match ZZ seen l with
  |none=>false
  |some l=>VJ l
theorem ZhW:Z1f 4 4 false=fun s=>ZD s 4 4 true:=funext (J4 4 4)
theorem Z3U{s:List UInt8}(h:Jr s=true):4<=s.length:=by
 unfold Jr at h;simp only[Bool.or_eq_true,Bool.and_eq_true]at h;rcases h with h|h
 ·have:=Js h;omega
 ·have:=Js h.1;omega
theorem Zdo(s:List UInt8)(hs:s.length<=8589934592):Does prog tab 246 0 [.str s] [] [] (Val (.tup [.agg (anyN 7), .int .i64 (if tagP (Zr s)=true then 0 else 61)])):=by
 have hbulk:=Z1e s;have hlen:=Z0C s;have hne:=Z2s s;generalize hps:Zr s=ps at*;have hb:JC ps+ps.length<=34359738368:=by unfold JC;omega
 have hsm:=Z0b (ps:=ps) (by omega)
 obtain⟨p0,hp0⟩:∃p0,ps[0]?=some p0:=by
  cases ps with
  |nil=>exact(hne rfl).elim
  |cons a t=>exact⟨a,rfl⟩
 have hp0l:=hsm p0 (List.mem_of_getElem? hp0)
 have hhead:Z55 ZY ps=ZY p0:=by
  cases ps with
  |nil=>cases hp0
  |cons a t=>have:a=p0:=by simpa using hp0
             subst this;rfl
 refine Does.enter Z0 call246 func246 rfl 152 rfl rfl [.cell 2 223, .tmp 3] rfl ?_;intro w0 F η0 h0;conv=>whnf
 apply Zex (X:=Nat×List UInt8×List UInt8×List UInt8×List UInt8) (n:=6) (fun x=>tagP ps=Z0H (ps.drop x.1)/\x.1<=ps.length) (fun _=>frT) (fun x=>OT ps x.1 x.2.1 x.2.2.1 x.2.2.2.1 x.2.2.2.2);intro K;refine CALL.newS (Z7N s (by omega)) rfl (Yh _) ?_;rw[hps,List.length_map];have hpos:0<ps.length:=(List.getElem?_eq_some_iff.1 hp0).1;conv=>whnf
 repeat'((first|(refine GET.at (row:=Zc p0) (by rw[List.getElem?_map,show 0+(0:Int).toNat=0 by simp,hp0];rfl) ?_;conv=>whnf)|refine AU ?_|(refine IW ?_ ?_<;>intro h<;>try(exfalso;omega)))<;>conv=>whnf)
 refine CALL.nilCell 1 4 1 rfl rfl ?_;refine CALL.nilCell 1 5 1 rfl rfl ?_;refine CALL.value (YE _ hp0l) rfl rfl ?_;conv=>whnf
 refine IF.mk (fun h=>?_) (fun h=>?_)
 ·rw[ZhV]at h;have hpr:Z55 ZY ps=false:=by rw[hhead];simpa using h
  have hcont:∀l,JI (ps.drop 0)=some l->tagP ps=Z0H (J9 Xj (J9 (fun s=>ZD s 4 4 true) l)):=by
   intro l hl;have hl:JI ps=some l:=hl;unfold tagP Z0H;rw[if_neg (by simp[hpr]),hl];simp only[Xv];cases YN [] (J9 Xj (J9 (fun s=>ZD s 4 4 true) l))with
   |none=>rfl
   |some x=>obtain⟨l',seen⟩:=x;rfl
  conv=>whnf
  refine CALL.aA [3,2,1,4,5] (Z4r ps (by omega) 0 ps.length (by omega)) ?_;rintro r O' nx' ⟨i1,m1,L,E,him1,rfl,hL,rfl,rfl⟩;cases h2:JI (ps.drop 0)with
  |none=>
   have htag:tagP ps=false:=by
    have h2:JI ps=none:=h2;unfold tagP;rw[if_neg (by simp[hpr]),h2]
   rw[Option.isSome_none];conv=>whnf
   repeat'((first|refine AU ?_|(refine IW ?_ ?_<;>intro h<;>try(exfalso;omega)))<;>conv=>whnf)
   refine FIN.anyA 7 h0 rfl rfl rfl ⟨?_,rfl,rfl⟩;rw[htag];rfl
  |some l1=>
   obtain⟨hl1,hLne⟩:=hL l1 h2;subst hl1;have hc1:=hcont _ h2;rw[Option.isSome_some];conv=>whnf
   repeat'((first|(refine IF.yes (b:=L !=[]) (by simpa using hLne) ?_;conv=>whnf)|refine AU ?_|(refine IW ?_ ?_<;>intro h<;>try(exfalso;omega)))<;>conv=>whnf)
   refine CALL.aA [3,2] (JD 4 4 false ps hsm i1 m1 him1) ?_;rintro r O' nx' ⟨rfl,rfl,rfl⟩;rw[ZhW];conv=>whnf
   (repeat(first|((with_reducible refine IF.tt ?_);conv=>whnf)|((with_reducible refine IF.ff ?_);conv=>whnf)))
   refine IF.mk (fun h4=>?_) (fun h4=>?_)
   ·obtain⟨w1,hw1,hwm1⟩:=ZK h4;have hlt1:=(List.getElem?_eq_some_iff.1 hw1).1;obtain⟨k1,rfl⟩:∃k1,m1=k1+1:=⟨m1-1,by omega⟩;rw[Vz hw1 hwm1]at hc1;conv=>whnf
    refine CALL.aA [3,2] (YP ps i1 k1 him1 w1 hw1) ?_;rintro r O' nx' ⟨rfl,rfl,rfl⟩;conv=>whnf
    repeat'((first|(refine IF.yes (b:=L !=[]) (by simpa using hLne) ?_;conv=>whnf)|refine AU ?_|(refine IW ?_ ?_<;>intro h<;>try(exfalso;omega)))<;>conv=>whnf)
    refine CALL.aA [3,2] (JD 2 2 false ps hsm (i1+1) (k1) (by omega)) ?_;rintro r O' nx' ⟨rfl,rfl,rfl⟩;conv=>whnf
    (repeat(first|((with_reducible refine IF.tt ?_);conv=>whnf)|((with_reducible refine IF.ff ?_);conv=>whnf)))
    refine IF.mk (fun h5=>?_) (fun h5=>?_)
    ·have hsee:∃q,ps[i1+1]?=some q/\Xj q=true:=by
      obtain⟨q,hq,hqm⟩:=ZK h5;exact⟨q,hq,by rw[Jo,hqm];rfl⟩
     conv=>whnf
     repeat'((first|refine AU ?_|(refine IW ?_ ?_<;>intro h<;>try(exfalso;omega)))<;>conv=>whnf)
     obtain⟨q,hq,hqm⟩:=hsee;have hlt2:=(List.getElem?_eq_some_iff.1 hq).1;obtain⟨k2,hk2⟩:∃k2,k1=k2+1:=⟨k1-1,by omega⟩;have htag:tagP ps=Z0H (ps.drop (i1+1+1)):=by rw[hc1,Vz hq hqm]
     rw[hk2];conv=>whnf
     refine CALL.aA [3,2] (YP ps (i1+1) k2 (by omega) q hq) ?_;rintro r O' nx' ⟨rfl,rfl,rfl⟩;conv=>whnf
     refine LOOP.goes (fr':=frT) (O':=OT ps (i1+1+1) L E w1 q) (n1:=6) ?_ (K (i1+1+1,L,E,w1,q) ⟨htag,by simp only;omega⟩);unfold frT OT;rw[show ps.length-(i1+1+1)=k2 by omega];exact GOES.kA h0 [0,1,2,3,4,5]
    ·conv=>whnf
     repeat'((first|refine AU ?_|(refine IW ?_ ?_<;>intro h<;>try(exfalso;omega)))<;>conv=>whnf)
     refine CALL.aA [3,2] (JD 3 3 true ps hsm (i1+1) (k1) (by omega)) ?_;rintro r O' nx' ⟨rfl,rfl,rfl⟩;conv=>whnf
     (repeat(first|((with_reducible refine IF.tt ?_);conv=>whnf)|((with_reducible refine IF.ff ?_);conv=>whnf)))
     refine IF.mk (fun h6=>?_) (fun h6=>?_)
     ·have hsee:∃q,ps[i1+1]?=some q/\Xj q=true:=by
       obtain⟨q,hq,hqm⟩:=ZK h6;exact⟨q,hq,by rw[Jo,hqm,Bool.or_true]⟩
      conv=>whnf
      repeat'((first|refine AU ?_|(refine IW ?_ ?_<;>intro h<;>try(exfalso;omega)))<;>conv=>whnf)
      obtain⟨q,hq,hqm⟩:=hsee;have hlt2:=(List.getElem?_eq_some_iff.1 hq).1;obtain⟨k2,hk2⟩:∃k2,k1=k2+1:=⟨k1-1,by omega⟩;have htag:tagP ps=Z0H (ps.drop (i1+1+1)):=by rw[hc1,Vz hq hqm]
      rw[hk2];conv=>whnf
      refine CALL.aA [3,2] (YP ps (i1+1) k2 (by omega) q hq) ?_;rintro r O' nx' ⟨rfl,rfl,rfl⟩;conv=>whnf
      refine LOOP.goes (fr':=frT) (O':=OT ps (i1+1+1) L E w1 q) (n1:=6) ?_ (K (i1+1+1,L,E,w1,q) ⟨htag,by simp only;omega⟩);unfold frT OT;rw[show ps.length-(i1+1+1)=k2 by omega];exact GOES.kA h0 [0,1,2,3,4,5]
     ·have hsee:YB Xj ps (i1+1)=false:=by
       unfold YB at*;cases hq:ps[i1+1]? with
       |none=>rfl
       |some q=>rw[hq]at h5 h6;simp only at h5 h6⊢;rw[Jo,h5];exact h6
      have htag:tagP ps=Z0H (ps.drop (i1+1)):=by rw[hc1,Z1j hsee]
      conv=>whnf
      repeat'((first|refine AU ?_|(refine IW ?_ ?_<;>intro h<;>try(exfalso;omega)))<;>conv=>whnf)
      refine LOOP.goes (fr':=frT) (O':=OT ps (i1+1) L E w1 []) (n1:=6) ?_ (K (i1+1,L,E,w1,[]) ⟨htag,by simp only;omega⟩);unfold frT OT;rw[show ps.length-(i1+1)=k1 by omega];exact GOES.kA h0 [0,1,2,3,4,5]
   ·rw[Z1j h4]at hc1;conv=>whnf
    repeat'((first|(refine IF.yes (b:=L !=[]) (by simpa using hLne) ?_;conv=>whnf)|refine AU ?_|(refine IW ?_ ?_<;>intro h<;>try(exfalso;omega)))<;>conv=>whnf)
    refine CALL.aA [3,2] (JD 2 2 false ps hsm (i1) (m1) (by omega)) ?_;rintro r O' nx' ⟨rfl,rfl,rfl⟩;conv=>whnf
    (repeat(first|((with_reducible refine IF.tt ?_);conv=>whnf)|((with_reducible refine IF.ff ?_);conv=>whnf)))
    refine IF.mk (fun h5=>?_) (fun h5=>?_)
    ·have hsee:∃q,ps[i1]?=some q/\Xj q=true:=by
      obtain⟨q,hq,hqm⟩:=ZK h5;exact⟨q,hq,by rw[Jo,hqm];rfl⟩
     conv=>whnf
     repeat'((first|refine AU ?_|(refine IW ?_ ?_<;>intro h<;>try(exfalso;omega)))<;>conv=>whnf)
     obtain⟨q,hq,hqm⟩:=hsee;have hlt2:=(List.getElem?_eq_some_iff.1 hq).1;obtain⟨k2,hk2⟩:∃k2,m1=k2+1:=⟨m1-1,by omega⟩;have htag:tagP ps=Z0H (ps.drop (i1+1)):=by rw[hc1,Vz hq hqm]
     rw[hk2];conv=>whnf
     refine CALL.aA [3,2] (YP ps (i1) k2 (by omega) q hq) ?_;rintro r O' nx' ⟨rfl,rfl,rfl⟩;conv=>whnf
     refine LOOP.goes (fr':=frT) (O':=OT ps (i1+1) L E [] q) (n1:=6) ?_ (K (i1+1,L,E,[],q) ⟨htag,by simp only;omega⟩);unfold frT OT;rw[show ps.length-(i1+1)=k2 by omega];exact GOES.kA h0 [0,1,2,3,4,5]
    ·conv=>whnf
     repeat'((first|refine AU ?_|(refine IW ?_ ?_<;>intro h<;>try(exfalso;omega)))<;>conv=>whnf)
     refine CALL.aA [3,2] (JD 3 3 true ps hsm (i1) (m1) (by omega)) ?_;rintro r O' nx' ⟨rfl,rfl,rfl⟩;conv=>whnf
     (repeat(first|((with_reducible refine IF.tt ?_);conv=>whnf)|((with_reducible refine IF.ff ?_);conv=>whnf)))
     refine IF.mk (fun h6=>?_) (fun h6=>?_)
     ·have hsee:∃q,ps[i1]?=some q/\Xj q=true:=by
       obtain⟨q,hq,hqm⟩:=ZK h6;exact⟨q,hq,by rw[Jo,hqm,Bool.or_true]⟩
      conv=>whnf
      repeat'((first|refine AU ?_|(refine IW ?_ ?_<;>intro h<;>try(exfalso;omega)))<;>conv=>whnf)
      obtain⟨q,hq,hqm⟩:=hsee;have hlt2:=(List.getElem?_eq_some_iff.1 hq).1;obtain⟨k2,hk2⟩:∃k2,m1=k2+1:=⟨m1-1,by omega⟩;have htag:tagP ps=Z0H (ps.drop (i1+1)):=by rw[hc1,Vz hq hqm]
      rw[hk2];conv=>whnf
      refine CALL.aA [3,2] (YP ps (i1) k2 (by omega) q hq) ?_;rintro r O' nx' ⟨rfl,rfl,rfl⟩;conv=>whnf
      refine LOOP.goes (fr':=frT) (O':=OT ps (i1+1) L E [] q) (n1:=6) ?_ (K (i1+1,L,E,[],q) ⟨htag,by simp only;omega⟩);unfold frT OT;rw[show ps.length-(i1+1)=k2 by omega];exact GOES.kA h0 [0,1,2,3,4,5]
     ·have hsee:YB Xj ps (i1)=false:=by
       unfold YB at*;cases hq:ps[i1]? with
       |none=>rfl
       |some q=>rw[hq]at h5 h6;simp only at h5 h6⊢;rw[Jo,h5];exact h6
      have htag:tagP ps=Z0H (ps.drop (i1)):=by rw[hc1,Z1j hsee]
      conv=>whnf
      repeat'((first|refine AU ?_|(refine IW ?_ ?_<;>intro h<;>try(exfalso;omega)))<;>conv=>whnf)
      refine LOOP.goes (fr':=frT) (O':=OT ps (i1) L E [] []) (n1:=6) ?_ (K (i1,L,E,[],[]) ⟨htag,by simp only;omega⟩);unfold frT OT;rw[show ps.length-(i1)=m1 by omega];exact GOES.kA h0 [0,1,2,3,4,5]
 ·rw[ZhV]at h;have hpr:ZY p0=true:=by simpa using h
  have htag:tagP ps=Z0H (ps.drop 0):=by
   unfold tagP Z0H;rw[if_pos (by rw[hhead,hpr]),ZU hp0]
   have h4:¬4<=p0.length:=by
    have:=hpr;unfold ZY at this;simp at this;rcases this with rfl|rfl<;>simp
   have hv:Jr p0≠true:=fun h=>h4 (Z3U h);simp only[YN];rw[if_neg hv];simp only;rw[ZZ,if_neg (by unfold Xu;simp[hpr])];simp only;rw[<-ZU hp0];rfl
  conv=>whnf
  repeat'((first|refine AU ?_|(refine IW ?_ ?_<;>intro h<;>try(exfalso;omega)))<;>conv=>whnf)
  refine LOOP.goes (fr':=frT) (O':=OT ps (0) [] [] [] []) (n1:=6) ?_ (K (0,[],[],[],[]) ⟨htag,by simp only;omega⟩);unfold frT OT;rw[show ps.length-(0)=ps.length by omega];exact GOES.kA h0 [0,1,2,3,4,5]
 rintro⟨a0,L,E,S,R⟩ ⟨htag,ha0⟩;dsimp only at htag ha0⊢;unfold frT OT;refine LOOP.go Z0 [2,4,5] (X:=Nat×List (List UInt8)) (fun y=>y.1<=ps.length/\y.2.length<=y.1/\(∀s∈y.2,4<=s.length/\Sm s)/\YN [] (ps.drop a0)=YN (y.2.map Z4) (ps.drop y.1)) (fun y=>[]) (fun y=>[(0,tz6),(1,tg6 L E S R 4 y.2.length 5 0 []),(2, .rows 1 (ps.map Zc)),(3,rd6' y.1 (ps.length-y.1)),(4, .rows 1 (y.2.map Zc)),(5, .rows 1 [])]) 6 (fun y=>ps.length-y.1) (a0,[]) ⟨by simp only;omega,by simp,by simp,rfl⟩ ?_;conv=>whnf
 refine⟨by exact GOES.kA h0 [0,1,2,3,4,5],?_⟩;rintro⟨a,vs⟩ ⟨ha,hvl,hvs,hx⟩;dsimp only at ha hvl hvs hx⊢;conv=>whnf
 rcases Nat.lt_or_ge a ps.length with hap|hap
 ·obtain⟨w,hw⟩:∃w,ps[a]?=some w:=⟨_,List.getElem?_eq_getElem hap⟩;have hwl:=hsm w (List.mem_of_getElem? hw);obtain⟨k',hk'⟩:∃k',ps.length-a=k'+1:=⟨ps.length-a-1,by omega⟩;repeat'((first|(refine GET.at (row:=Zc w) (by rw[List.getElem?_map,show a+(0:Int).toNat=a by simp,hw];rfl) ?_;conv=>whnf)|refine CALL.value (Z4q _ hwl) rfl rfl ?_|refine AU ?_|(refine IW ?_ ?_<;>intro h<;>try(exfalso;omega)))<;>conv=>whnf)
  ·have hvm:Jr w=true:=by assumption
   have hv4:=Z3U hvm;rw[hk'];refine CALL.aA [3,2] (YP ps a k' (by omega) w hw) ?_;rintro r O' nx' ⟨rfl,rfl,rfl⟩
   have hxa:YN (vs.map Z4) (ps.drop a)=if Z4 w∈vs.map Z4 then none else YN (vs.map Z4++ [Z4 w]) (ps.drop (a+1)):=by
    rw[ZU hw];simp only[YN];rw[if_pos hvm]
   conv=>whnf
   refine LOOP.go Z0 [2,4,5,7] (X:=Nat) (fun i=>i<=vs.length/\Z4 w∉ (vs.take i).map Z4) (fun i=>[(8, .int .i64 (i:Int))]) (fun i=>[(0,tz6),(1,tg6 L E S R 4 vs.length 5 0 []),(2, .rows 1 (ps.map Zc)),(3,rd6' (a+1) k'),(4, .rows 1 (vs.map Zc)),(5, .rows 1 [])]) 6 (fun i=>vs.length-i) 0 ⟨by omega,by simp⟩ ?_;conv=>whnf
   refine⟨by exact GOES.kA h0 [0,1,2,3,4,5],?_⟩;rintro i ⟨hi,hn⟩;dsimp only at hi hn⊢;conv=>whnf
   rcases Nat.lt_or_ge i vs.length with hiv|hiv
   ·have hvi:=(hvs _ (List.getElem_mem hiv)).2;repeat'((first|(refine GET.at (row:=Zc (vs[i]'(by omega))) (by rw[List.getElem?_map,show 0+(i:Int).toNat=i by simp,List.getElem?_eq_getElem (by omega)];rfl) ?_;conv=>whnf)|refine CALL.value (YE _ hvi) rfl rfl ?_|refine CALL.value (YE _ hwl) rfl rfl ?_|refine AU ?_|(refine IW ?_ ?_<;>intro h<;>try(exfalso;omega)))<;>conv=>whnf)
    ·have hin:Z4 w∈vs.map Z4:=by rw[<-(by assumption:Z4 vs[i]=Z4 w)];exact List.mem_map_of_mem (List.getElem_mem hiv)
     refine FIN.anyA 7 h0 rfl rfl rfl ⟨?_,rfl,rfl⟩;rw[htag];unfold Z0H;rw[hx,hxa,if_pos hin];rfl
    ·refine⟨i+1,⟨by omega,?_⟩,by omega,?_⟩
     ·rw[List.take_succ_eq_append_getElem hiv,List.map_append,List.mem_append];rintro(h1|h1)
      ·exact hn h1
      ·have:Z4 w=Z4 vs[i]:=by simpa using h1
       exact(by assumption:¬Z4 vs[i]=Z4 w) this.symm
     ·conv=>whnf
      exact GOES.kA h0 [0,1,2,3,4,5]
   ·rw[List.take_of_length_le (by omega)]at hn;repeat'((first|refine AU ?_|(refine IW ?_ ?_<;>intro h<;>try(exfalso;omega)))<;>conv=>whnf)
    have e:(vs++ [w]).length=vs.length+1:=by simp
    refine⟨(a+1,vs++ [w]),⟨by simp only;omega,by simp;omega,?_,by simp only;rw[hx,hxa,if_neg hn];simp⟩,by simp only;omega,?_⟩
    ·intro x hx';rcases List.mem_append.1 hx' with h1|h1
     ·exact hvs x h1
     ·rw[List.mem_singleton.1 h1];exact⟨hv4,hwl⟩
    ·dsimp only;rw[e,show ps.length-(a+1)=k' by omega];conv=>whnf
     exact GOES.kA h0 [0,1,2,3,7,5]
  ·have hvm:Jr w=false:=by assumption
   have hv0:YN (vs.map Z4) (ps.drop a)=some (ps.drop a,vs.map Z4):=by
    rw[ZU hw];simp only[YN];rw[if_neg (by simp[hvm])]
   have hc0:tagP ps=match ZZ (vs.map Z4) (ps.drop a)with|none=>false|some l=>VJ l:=by rw[htag];unfold Z0H;rw[hx,hv0]
   refine LOOP.go Z0 [2,4,5] (X:=Nat×List (List UInt8)) (fun y=>y.1<=ps.length/\y.2.length<=y.1/\(∀x∈y.2,1<=x.length/\Sm x)/\ZZ (vs.map Z4) (ps.drop a)=ZZ (vs.map Z4++y.2.map fun x=>Z4 (x.take 1)) (ps.drop y.1)) (fun y=>[]) (fun y=>[(0,tz6),(1,tg6 L E S R 4 vs.length 5 y.2.length []),(2, .rows 1 (ps.map Zc)),(3,rd6' y.1 (ps.length-y.1)),(4, .rows 1 (vs.map Zc)),(5, .rows 1 (y.2.map Zc))]) 6 (fun y=>ps.length-y.1) (a,[]) ⟨by simp only;omega,by simp,by simp,by simp⟩ ?_;conv=>whnf
   refine⟨by exact GOES.kA h0 [0,1,2,3,4,5],?_⟩;rintro⟨b,xs⟩ ⟨hb1,hxl,hxs,hy⟩;dsimp only at hb1 hxl hxs hy⊢;conv=>whnf
   rcases Nat.lt_or_ge b ps.length with hbp|hbp
   ·obtain⟨u,hu⟩:∃u,ps[b]?=some u:=⟨_,List.getElem?_eq_getElem hbp⟩;have hul:=hsm u (List.mem_of_getElem? hu);obtain⟨k',hk'⟩:∃k',ps.length-b=k'+1:=⟨ps.length-b-1,by omega⟩;clear hx hv0 hvl;repeat'((first|(refine GET.at (row:=Zc u) (by rw[List.getElem?_map,show b+(0:Int).toNat=b by simp,hu];rfl) ?_;conv=>whnf)|refine CALL.value (YE _ hul) rfl rfl ?_|refine CALL.value (Vk _ _ _ hul) rfl rfl ?_|refine AU ?_|(refine IW ?_ ?_<;>intro h<;>try(exfalso;omega)))<;>conv=>whnf)
    all_goals try(exact absurd (by assumption:Z4 u=[120]) (by assumption))
    ·have hnp:ZY u=false:=by rw[X0];simpa using(by assumption:¬Z4 u=[120])
     have hmm:ZD u 1 1 false=true:=by assumption
     have hsg:Xu u=true:=by unfold Xu;rw[hmm,hnp];rfl
     have hu1:u.length=1:=by have:=Js hmm;omega
     rw[hk'];refine CALL.aA [3,2,1,4,5] (W3 ps hb b k' (by omega) u hu hu1 L E S R vs.length [] xs hxs (by omega)) ?_;rintro r O' nx' ⟨n,xs',hn,rfl,hz,rfl,rfl⟩;have hnle:n<=(ps.drop (b+1)).length:=by rw[hn];exact VI _ _
     rw[List.length_drop]at hnle
     have hmem:Z4 u∈vs.map Z4++(xs.map fun x=>Z4 (x.take 1))<->dupM xs u=true:=by
      unfold dupM;rw[List.mem_append,List.any_eq_true];constructor
      ·rintro(h|h)
       ·obtain⟨v,hv,he⟩:=List.mem_map.1 h;have h1:=(hvs v hv).1;have h2:=congrArg List.length he;unfold Z4 at h2;simp only[List.length_map]at h2;omega
       ·obtain⟨x,hx,he⟩:=List.mem_map.1 h;exact⟨x,hx,by simp[he]⟩
      ·rintro⟨x,hx,he⟩;exact .inr (List.mem_map.2 ⟨x,hx,by simpa using he⟩)
     have hya:ZZ (vs.map Z4++xs.map fun x=>Z4 (x.take 1)) (ps.drop b)=if n=0\/dupM xs u=true then none else ZZ ((vs.map Z4++xs.map fun x=>Z4 (x.take 1))++ [Z4 u]) (ps.drop (b+1+n)):=by
      rw[ZU hu,ZZ,if_pos hsg,<-hn,List.drop_drop];simp only[hmem]
     by_cases hgood:dupM xs u=false/\n≠0
     ·obtain⟨z,rfl,hz1,hz2⟩:=hz hgood.1;rw[show(!dupM xs u&&decide (n≠0))=true by simp[hgood]];conv=>whnf
      repeat'((first|refine AU ?_|(refine IW ?_ ?_<;>intro h<;>try(exfalso;omega)))<;>conv=>whnf)
      have e:(xs++ [z]).length=xs.length+1:=by simp
      refine⟨(b+1+n,xs++ [z]),⟨by simp only;omega,by simp;omega,?_,?_⟩,by simp only;omega,?_⟩
      ·intro x hx';rcases List.mem_append.1 hx' with h1|h1
       ·exact hxs x h1
       ·rw[List.mem_singleton.1 h1];refine⟨?_,hz2⟩;rcases z with _|⟨c,t⟩
        ·simp at hz1;subst hz1;simp at hu1
        ·simp
      ·simp only;rw[hy,hya,if_neg (by simp[hgood])];simp[hz1]
      ·dsimp only;rw[show ps.length-(b+1+n)=k'-n by omega];conv=>whnf
       exact GOES.kA h0 [0,1,2,3,4,6]
     ·have hbad:n=0\/dupM xs u=true:=by
       rcases Nat.eq_zero_or_pos n with h|h
       ·exact .inl h
       ·right
        cases hd:dupM xs u with
        |true=>rfl
        |false=>exact absurd ⟨hd,by omega⟩ hgood
      have htf:tagP ps=false:=by rw[hc0,hy,hya,if_pos hbad]
      rw[show(!dupM xs u&&decide (n≠0))=false by rcases hbad with h|h<;>simp[h]];conv=>whnf
      repeat'((first|refine AU ?_|(refine IW ?_ ?_<;>intro h<;>try(exfalso;omega)))<;>conv=>whnf)
      refine FIN.anyA 7 h0 rfl rfl rfl ⟨?_,rfl,rfl⟩;rw[htf];rfl
    ·have hnp:ZY u=false:=by rw[X0];simpa using(by assumption:¬Z4 u=[120])
     have hmm:ZD u 1 1 false=false:=by assumption
     have hsg:¬Xu u=true:=by unfold Xu;simp[hmm]
     have hlast:tagP ps=false:=by
      rw[hc0,hy,ZU hu,ZZ,if_neg hsg];simp only[VJ];rw[if_neg (by simp[hnp])]
     refine FIN.anyA 7 h0 rfl rfl rfl ⟨?_,rfl,rfl⟩;rw[hlast];rfl
    ·have hpv:ZY u=true:=by rw[X0];simpa using(by assumption:Z4 u=[120])
     have hsg:¬Xu u=true:=by unfold Xu;simp[hpv]
     have hlast:tagP ps=decide (ZS (YL 1) (ps.drop (b+1))≠0/\ZS (YL 1) (ps.drop (b+1))=(ps.drop (b+1)).length):=by
      rw[hc0,hy,ZU hu,ZZ,if_neg hsg];simp only[VJ];rw[if_pos hpv]
     refine CALL.aA [3,2,1,4,5] (Z0G ps hb b (ps.length-b) (by omega) hbp L E S R vs.length xs.length []) ?_;rintro r O' nx' ⟨P',rfl,rfl,rfl⟩;rw[<-hlast];cases htf:tagP ps with
     |true=>
      conv=>whnf
      repeat'((first|refine AU ?_|(refine IW ?_ ?_<;>intro h<;>try(exfalso;omega)))<;>conv=>whnf)
      exact FIN.anyA 7 h0 rfl rfl rfl ⟨rfl,rfl,rfl⟩
     |false=>
      conv=>whnf
      repeat'((first|refine AU ?_|(refine IW ?_ ?_<;>intro h<;>try(exfalso;omega)))<;>conv=>whnf)
      exact FIN.anyA 7 h0 rfl rfl rfl ⟨rfl,rfl,rfl⟩
   ·repeat'((first|refine AU ?_|(refine IW ?_ ?_<;>intro h<;>try(exfalso;omega)))<;>conv=>whnf)
    have hlast:tagP ps=true:=by rw[hc0,hy,List.drop_eq_nil_of_le (by omega),ZZ];rfl
    refine FIN.anyA 7 h0 rfl rfl rfl ⟨?_,rfl,rfl⟩;rw[hlast];rfl
 ·repeat'((first|refine AU ?_|(refine IW ?_ ?_<;>intro h<;>try(exfalso;omega)))<;>conv=>whnf)
  have hv0:YN (vs.map Z4) (ps.drop a)=some (ps.drop a,vs.map Z4):=by
   rw[List.drop_eq_nil_of_le (by omega)];rfl
  have hc0:tagP ps=match ZZ (vs.map Z4) (ps.drop a)with|none=>false|some l=>VJ l:=by rw[htag];unfold Z0H;rw[hx,hv0]
  refine LOOP.go Z0 [2,4,5] (X:=Nat×List (List UInt8)) (fun y=>y.1<=ps.length/\y.2.length<=y.1/\(∀x∈y.2,1<=x.length/\Sm x)/\ZZ (vs.map Z4) (ps.drop a)=ZZ (vs.map Z4++y.2.map fun x=>Z4 (x.take 1)) (ps.drop y.1)) (fun y=>[]) (fun y=>[(0,tz6),(1,tg6 L E S R 4 vs.length 5 y.2.length []),(2, .rows 1 (ps.map Zc)),(3,rd6' y.1 (ps.length-y.1)),(4, .rows 1 (vs.map Zc)),(5, .rows 1 (y.2.map Zc))]) 6 (fun y=>ps.length-y.1) (a,[]) ⟨by simp only;omega,by simp,by simp,by simp⟩ ?_;conv=>whnf
  refine⟨by exact GOES.kA h0 [0,1,2,3,4,5],?_⟩;rintro⟨b,xs⟩ ⟨hb1,hxl,hxs,hy⟩;dsimp only at hb1 hxl hxs hy⊢;conv=>whnf
  rcases Nat.lt_or_ge b ps.length with hbp|hbp
  ·obtain⟨u,hu⟩:∃u,ps[b]?=some u:=⟨_,List.getElem?_eq_getElem hbp⟩;have hul:=hsm u (List.mem_of_getElem? hu);obtain⟨k',hk'⟩:∃k',ps.length-b=k'+1:=⟨ps.length-b-1,by omega⟩;clear hx hv0 hvl;repeat'((first|(refine GET.at (row:=Zc u) (by rw[List.getElem?_map,show b+(0:Int).toNat=b by simp,hu];rfl) ?_;conv=>whnf)|refine CALL.value (YE _ hul) rfl rfl ?_|refine CALL.value (Vk _ _ _ hul) rfl rfl ?_|refine AU ?_|(refine IW ?_ ?_<;>intro h<;>try(exfalso;omega)))<;>conv=>whnf)
   all_goals try(exact absurd (by assumption:Z4 u=[120]) (by assumption))
   ·have hnp:ZY u=false:=by rw[X0];simpa using(by assumption:¬Z4 u=[120])
    have hmm:ZD u 1 1 false=true:=by assumption
    have hsg:Xu u=true:=by unfold Xu;rw[hmm,hnp];rfl
    have hu1:u.length=1:=by have:=Js hmm;omega
    rw[hk'];refine CALL.aA [3,2,1,4,5] (W3 ps hb b k' (by omega) u hu hu1 L E S R vs.length [] xs hxs (by omega)) ?_;rintro r O' nx' ⟨n,xs',hn,rfl,hz,rfl,rfl⟩;have hnle:n<=(ps.drop (b+1)).length:=by rw[hn];exact VI _ _
    rw[List.length_drop]at hnle
    have hmem:Z4 u∈vs.map Z4++(xs.map fun x=>Z4 (x.take 1))<->dupM xs u=true:=by
     unfold dupM;rw[List.mem_append,List.any_eq_true];constructor
     ·rintro(h|h)
      ·obtain⟨v,hv,he⟩:=List.mem_map.1 h;have h1:=(hvs v hv).1;have h2:=congrArg List.length he;unfold Z4 at h2;simp only[List.length_map]at h2;omega
      ·obtain⟨x,hx,he⟩:=List.mem_map.1 h;exact⟨x,hx,by simp[he]⟩
     ·rintro⟨x,hx,he⟩;exact .inr (List.mem_map.2 ⟨x,hx,by simpa using he⟩)
    have hya:ZZ (vs.map Z4++xs.map fun x=>Z4 (x.take 1)) (ps.drop b)=if n=0\/dupM xs u=true then none else ZZ ((vs.map Z4++xs.map fun x=>Z4 (x.take 1))++ [Z4 u]) (ps.drop (b+1+n)):=by
     rw[ZU hu,ZZ,if_pos hsg,<-hn,List.drop_drop];simp only[hmem]
    by_cases hgood:dupM xs u=false/\n≠0
    ·obtain⟨z,rfl,hz1,hz2⟩:=hz hgood.1;rw[show(!dupM xs u&&decide (n≠0))=true by simp[hgood]];conv=>whnf
     repeat'((first|refine AU ?_|(refine IW ?_ ?_<;>intro h<;>try(exfalso;omega)))<;>conv=>whnf)
     have e:(xs++ [z]).length=xs.length+1:=by simp
     refine⟨(b+1+n,xs++ [z]),⟨by simp only;omega,by simp;omega,?_,?_⟩,by simp only;omega,?_⟩
     ·intro x hx';rcases List.mem_append.1 hx' with h1|h1
      ·exact hxs x h1
      ·rw[List.mem_singleton.1 h1];refine⟨?_,hz2⟩;rcases z with _|⟨c,t⟩
       ·simp at hz1;subst hz1;simp at hu1
       ·simp
     ·simp only;rw[hy,hya,if_neg (by simp[hgood])];simp[hz1]
     ·dsimp only;rw[show ps.length-(b+1+n)=k'-n by omega];conv=>whnf
      exact GOES.kA h0 [0,1,2,3,4,6]
    ·have hbad:n=0\/dupM xs u=true:=by
      rcases Nat.eq_zero_or_pos n with h|h
      ·exact .inl h
      ·right
       cases hd:dupM xs u with
       |true=>rfl
       |false=>exact absurd ⟨hd,by omega⟩ hgood
     have htf:tagP ps=false:=by rw[hc0,hy,hya,if_pos hbad]
     rw[show(!dupM xs u&&decide (n≠0))=false by rcases hbad with h|h<;>simp[h]];conv=>whnf
     repeat'((first|refine AU ?_|(refine IW ?_ ?_<;>intro h<;>try(exfalso;omega)))<;>conv=>whnf)
     refine FIN.anyA 7 h0 rfl rfl rfl ⟨?_,rfl,rfl⟩;rw[htf];rfl
   ·have hnp:ZY u=false:=by rw[X0];simpa using(by assumption:¬Z4 u=[120])
    have hmm:ZD u 1 1 false=false:=by assumption
    have hsg:¬Xu u=true:=by unfold Xu;simp[hmm]
    have hlast:tagP ps=false:=by
     rw[hc0,hy,ZU hu,ZZ,if_neg hsg];simp only[VJ];rw[if_neg (by simp[hnp])]
    refine FIN.anyA 7 h0 rfl rfl rfl ⟨?_,rfl,rfl⟩;rw[hlast];rfl
   ·have hpv:ZY u=true:=by rw[X0];simpa using(by assumption:Z4 u=[120])
    have hsg:¬Xu u=true:=by unfold Xu;simp[hpv]
    have hlast:tagP ps=decide (ZS (YL 1) (ps.drop (b+1))≠0/\ZS (YL 1) (ps.drop (b+1))=(ps.drop (b+1)).length):=by
     rw[hc0,hy,ZU hu,ZZ,if_neg hsg];simp only[VJ];rw[if_pos hpv]
    refine CALL.aA [3,2,1,4,5] (Z0G ps hb b (ps.length-b) (by omega) hbp L E S R vs.length xs.length []) ?_;rintro r O' nx' ⟨P',rfl,rfl,rfl⟩;rw[<-hlast];cases htf:tagP ps with
    |true=>
     conv=>whnf
     repeat'((first|refine AU ?_|(refine IW ?_ ?_<;>intro h<;>try(exfalso;omega)))<;>conv=>whnf)
     exact FIN.anyA 7 h0 rfl rfl rfl ⟨rfl,rfl,rfl⟩
    |false=>
     conv=>whnf
     repeat'((first|refine AU ?_|(refine IW ?_ ?_<;>intro h<;>try(exfalso;omega)))<;>conv=>whnf)
     exact FIN.anyA 7 h0 rfl rfl rfl ⟨rfl,rfl,rfl⟩
  ·repeat'((first|refine AU ?_|(refine IW ?_ ?_<;>intro h<;>try(exfalso;omega)))<;>conv=>whnf)
   have hlast:tagP ps=true:=by rw[hc0,hy,List.drop_eq_nil_of_le (by omega),ZZ];rfl
   refine FIN.anyA 7 h0 rfl rfl rfl ⟨?_,rfl,rfl⟩;rw[hlast];rfl
end Go.Proofs.YtlcbipfmodcedaaGreatDoor
