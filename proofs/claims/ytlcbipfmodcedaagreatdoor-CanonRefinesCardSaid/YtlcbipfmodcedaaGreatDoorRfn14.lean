/- Part 14: SplitM, TagM, TermM, ValidM, ValidN, InferM, WorldM, CloseM, DrawsM, ClosR, LeastM. Conditions: as each part says. -/
import Derived.Test.YtlcbipfmodcedaaGreatDoorRfn8
set_option linter.unusedVariables false
set_option linter.unusedSimpArgs false
namespace Go.Our
open Go.Sx
def Zr:List UInt8->List (List UInt8)
 | []=>[[]]
 |c::t=>if c=45 then []::Zr t else match Zr t with
  |h::r=>(c::h)::r
  | []=>[[c]]
theorem Z2s:∀s,Zr s≠ []
 | []=>by simp[Zr]
 |c::t=>by
  unfold Zr;split
  ·simp
  ·split<;>simp
theorem Jn:∀s:List UInt8,(Zr s).length=s.count 45+1
 | []=>rfl
 |c::t=>by
  have ih:=Jn t;unfold Zr;split
  ·rename_i h;subst h;simp[ih]
  ·rename_i h;split
   ·rename_i h' r e;rw[e]at ih;simp at ih⊢;rw[List.count_cons_of_ne (by simpa using h)];omega
   ·rename_i e;exact(Z2s t e).elim
theorem Z53:∀{s:List UInt8},Lib.indexByte s 45= -1->Zr s=[s]
 | [],_=>rfl
 |c::t,h=>by
  unfold Lib.indexByte at h;by_cases hc:c=45
  ·subst hc;simp at h
  ·have hge:=Lib.indexByte_ge t 45
   have:Lib.indexByte t 45= -1:=by
    simp[hc]at h;apply Classical.byContradiction;intro hn;have:=h hn;omega
   unfold Zr;rw[if_neg hc,Z53 this]
theorem Z54:∀{s:List UInt8} {m:Nat},Lib.indexByte s 45=m->m<s.length/\Zr s=s.take m::Zr (s.drop (m+1))
 | [],m,h=>by unfold Lib.indexByte at h;omega
 |c::t,m,h=>by
  unfold Lib.indexByte at h;by_cases hc:c=45
  ·subst hc;simp at h;obtain rfl:m=0:=by omega
   simp[Zr]
  ·have hge:=Lib.indexByte_ge t 45;simp[hc]at h;split at h
   ·omega
   ·obtain⟨k,rfl⟩:∃k,m=k+1:=⟨m-1,by omega⟩;have ih:=Z54 (s:=t) (m:=k) (by omega);refine⟨by simp;omega,?_⟩;conv=>lhs;unfold Zr
    rw[if_neg hc,ih.2];simp only[List.take_succ_cons,List.drop_succ_cons]
theorem Z0C(s:List UInt8):(Zr s).length<=s.length+1:=by
 rw[Jn];have:=List.count_le_length (a:=(45:UInt8)) (l:=s);omega
def Zc(s:List UInt8):List SV:=[.str s]
theorem Yh(l:List (List UInt8)):Zh (l.map Zc)=true:=Zz _ (fun _=>rfl) l
instance :PlF Zc:=⟨fun _=>rfl⟩
def Z3K(d:List (List UInt8))(k:Nat):List (List SV):=d.map Zc++List.replicate k (Zc [])
theorem Z7A(d:List (List UInt8))(k:Nat):Zh (Z3K d k)=true:=by
 unfold Z3K;refine VF (Yh d) ?_
 induction k with
 |zero=>rfl
 |succ k ih=>rw[List.replicate_succ];simp only[Zh,ih];rfl
theorem Za6{d:List (List UInt8)}{k i:Nat}(h:i=d.length)(hk:0<k):(Z3K d k)[i]?=some (Zc []):=by
 subst h;unfold Z3K;rw[List.getElem?_append_right (by simp)];simp[List.getElem?_replicate,hk]
theorem Za7{d:List (List UInt8)}{k i:Nat}{p:List UInt8}(h:i=d.length)(hk:0<k):(Z3K d k).set i [.str p]=Z3K (d++ [p]) (k-1):=by
 subst h;obtain⟨j,rfl⟩:∃j,k=j+1:=⟨k-1,by omega⟩;unfold Z3K;rw[List.set_append_right _ _ (by simp)];simp[List.replicate_succ,Zc]
end Go.Our
namespace Go.Our
open Go.Sx
def Xu(s:List UInt8):Bool:=ZD s 1 1 false&&!ZY s
def ZS(p:List UInt8->Bool):List (List UInt8)->Nat
 | []=>0
 |s::l=>if p s=true then ZS p l+1 else 0
theorem VI(p:List UInt8->Bool):∀l,ZS p l<=l.length
 | []=>by simp[ZS]
 |s::l=>by
  have:=VI p l;unfold ZS;split<;>simp<;>omega
abbrev YL(least:Int):List UInt8->Bool:=fun s=>ZD s least 8 false
def extP:Nat->List (List UInt8)->List (List UInt8)
 |0,l=>l
 |_+1,[]=>[]
 |n+1,s::l=>if ZD s 3 3 true=true then extP n l else s::l
def JI:List (List UInt8)->Option (List (List UInt8))
 | []=>none
 |s::l=>if ZD s 2 8 true=true then(if 3<s.length then some l else some (extP 3 l))else none
def J9(p:List UInt8->Bool):List (List UInt8)->List (List UInt8)
 | []=>[]
 |s::l=>if p s=true then l else s::l
def YN(seen:List (List UInt8)):List (List UInt8)->Option (List (List UInt8)×List (List UInt8))
 | []=>some ([],seen)
 |s::l=>if Jr s=true then(if Z4 s∈seen then none else YN (seen++ [Z4 s]) l)else some (s::l,seen)
def ZZ(seen:List (List UInt8)):List (List UInt8)->Option (List (List UInt8))
 | []=>some []
 |s::l=>if Xu s=true then
   (if ZS (YL 2) l=0\/Z4 s∈seen then none else ZZ (seen++ [Z4 s]) (l.drop (ZS (YL 2) l)))
   else some (s::l)
termination_by l=>l.length
decreasing_by simp;omega
def Xv(l:List (List UInt8)):Option (List (List UInt8)):=
 match YN [] (J9 Xj (J9 (fun s=>ZD s 4 4 true) l))with
 |none=>none
 |some (l,seen)=>ZZ seen l
def Z55(p:List UInt8->Bool):List (List UInt8)->Bool
 | []=>false
 |s::_=>p s
def VJ:List (List UInt8)->Bool
 | []=>true
 |s::l=>if ZY s=true then decide (ZS (YL 1) l≠0/\ZS (YL 1) l=l.length)else false
def tagP(l:List (List UInt8)):Bool:=
 if Z55 ZY l=true then VJ l else
 match JI l with
 |none=>false
 |some l=>match Xv l with
  |none=>false
  |some l=>VJ l
theorem Z1e:∀s:List UInt8,((Zr s).map List.length).sum+(Zr s).length=s.length+1
 | []=>rfl
 |c::t=>by
  have ih:=Z1e t;have hne:=Z2s t;unfold Zr;split
  ·simp only[List.map_cons,List.sum_cons,List.length_cons,List.length_nil];omega
  ·split
   ·rename_i h r e;rw[e]at ih;simp only[List.map_cons,List.sum_cons,List.length_cons]at ih⊢;omega
   ·rename_i e;exact(hne e).elim
theorem Z7B:∀(u:List UInt8) (n:Nat),(∀c∈u.take n,c≠45)->u[n]?=some 45->Zr u=u.take n::Zr (u.drop (n+1))
 | [],n,_,h=>by simp at h
 |c::t,0,_,h=>by
  have h:c=45:=by simpa using h
  subst h;conv=>lhs;unfold Zr
  rw[if_pos rfl];rfl
 |c::t,n+1,h,h2=>by
  have hc:c≠45:=h c (by simp);have ih:=Z7B t n (fun d hd=>h d (by simp[hd])) (by simpa using h2);conv=>lhs;unfold Zr
  rw[if_neg hc,ih];rfl
theorem Z7C:∀(u:List UInt8),(∀c∈u,c≠45)->Zr u=[u]
 | [],_=>rfl
 |c::t,h=>by
  have hc:c≠45:=h c (by simp);have ih:=Z7C t (fun d hd=>h d (by simp[hd]));unfold Zr;rw[if_neg hc,ih]
theorem Zbd:JR true=Ve:=by funext c;simp[JR]
def Z1f(least most:Int)(digits:Bool)(s:List UInt8):Bool:=decide (least<=s.length/\(s.length:Int)<=most)&& (if digits=true then allB XQ s 0 else allB Ve s 0)
theorem J4(least most:Int)(s:List UInt8):Z1f least most false s=ZD s least most true:=by
 unfold Z1f ZD;rw[Zbd,Bool.and_comm];rfl
theorem Zbe{s:List UInt8}(h:s.length=3):allB XQ s 0=(XQ (Z1 s 0)&&XQ (Z1 s 1)&&XQ (Z1 s 2)):=by
 rw[JH (by omega),JH (by omega),JH (by omega),Wr (by omega),Bool.and_true,Bool.and_assoc];rfl
theorem Jo(s:List UInt8):Xj s=(Z1f 2 2 false s||Z1f 3 3 true s):=by
 unfold Xj;rw[J4];congr 1;unfold Z1f;by_cases h:s.length=3
 ·rw[if_pos rfl,Zbe h];simp[h,Bool.and_assoc]
 ·have:decide ((3:Int)<=s.length/\(s.length:Int)<=3)=false:=decide_eq_false (by omega);rw[this];simp[h]
theorem Z3L(s:List UInt8):ZD s 2 8 true=(Z1f 2 3 false s||Z1f 4 8 false s):=by
 rw[J4,J4];unfold ZD;cases allB (JR true) s 0
 ·simp
 ·simp only[Bool.true_and];rw[Bool.eq_iff_iff];simp;omega
theorem X0(s:List UInt8):ZY s=(Z4 s==[120]):=by
 unfold ZY Z4;rcases s with _|⟨a,_|⟨b,t⟩⟩
 ·rfl
 ·rw[Bool.eq_iff_iff];simp only[Bool.or_eq_true,beq_iff_eq,List.map_cons,List.map_nil,List.cons.injEq,and_true];unfold lowB;constructor
  ·rintro(rfl|rfl)<;>rfl
  ·intro h;split at h
   ·rename_i h1;right
    have h2:=congrArg UInt8.toNat h;rw[UInt8.toNat_ofNat_of_lt' (by show a.toNat+32<256;omega)]at h2;have:a.toNat=88:=by simpa using h2
    exact UInt8.toNat_inj.1 (by simpa using this)
   ·exact .inl h
 ·simp
def Yi:List UInt8:=[104,116,116,112,58,47,47,119,119,119,46,119,51,46,111,114,103,47,49,57,57,57,47,48,50,47,50,50,45,114,100,102,45,115,121,110,116,97,120,45,110,115,35,108,97,110,103,83,116,114,105,110,103]
def litM(t y l:List UInt8):Int:=
 if 65536<t.length then 2 else if 0<=chk t 0 then 40 else if iriM y≠0 then iriM y else
 if l≠ []/\65536<l.length then 2 else if l≠ []/\(¬tagP (Zr l)=true\/Z4 l≠l)then 61 else
 if(l≠ []/\¬y=Yi)\/(l=[]/\y=Yi)then 71 else 0
def JA(x:Tm):Int:=
 if x.k=1\/x.k=2 then(if x.y≠ []\/x.l≠ []then 70 else if x.k=1 then iriM x.t else if 65536<x.t.length then 2 else Z51 x.t)
 else if x.k=3 then litM x.t x.y x.l else 70
def Vf(q:Qd):Int:=
 if ¬(q.s.k=1\/q.s.k=2)then 70 else if JA q.s≠0 then JA q.s else
 if ¬q.p.k=1 then 70 else if JA q.p≠0 then JA q.p else
 if JA q.o≠0 then JA q.o else
 if q.g=ZE then 0 else if ¬(q.g.k=1\/q.g.k=2)then 70 else JA q.g
theorem Z8S{x:Tm}(h:¬(x.k=1\/x.k=2\/x.k=3)):JA x=70:=by
 unfold JA;rw[if_neg (by omega),if_neg (by omega)]
theorem Zbf{c:UInt8}(h:65<=c.toNat/\c.toNat<=90):lowB c≠c:=by
 unfold lowB;rw[if_pos h];intro he;have:=congrArg UInt8.toNat he;rw[UInt8.toNat_ofNat_of_lt' (by show c.toNat+32<256;omega)]at this;omega
theorem Za8{s:List UInt8}{i:Nat}(h:i<s.length):(Z4 s)[i]?=some (lowB s[i]):=by
 unfold Z4;rw[List.getElem?_map,List.getElem?_eq_getElem h];rfl
theorem ZeT{s:List UInt8}{i:Nat}(h:i<s.length)(hu:65<=Z1 s i/\Z1 s i<=90):Z4 s≠s:=by
 intro he;have h1:=Za8 h;rw[he,List.getElem?_eq_getElem h]at h1;have hb:Z1 s i=(s[i].toNat:Int):=by unfold Z1;rw[Int.toNat_natCast,List.getD,List.getElem?_eq_getElem h];rfl
 exact Zbf (by omega) (Option.some.inj h1).symm
theorem Zbg{s:List UInt8}(hu:∀i:Nat,i<s.length->¬(65<=Z1 s i/\Z1 s i<=90)):Z4 s=s:=by
 apply List.ext_getElem?;intro i;by_cases h:i<s.length
 ·rw[Za8 h,List.getElem?_eq_getElem h];have hb:Z1 s i=(s[i].toNat:Int):=by unfold Z1;rw[Int.toNat_natCast,List.getD,List.getElem?_eq_getElem h];rfl
  have:=hu i h;rw[Z8R (by omega)]
 ·rw[List.getElem?_eq_none (by unfold Z4;simp;omega),List.getElem?_eq_none (by omega)]
def badM(l:List Qd)(i:Nat):Option (Nat×Int):=if h:i<l.length then(if Vf l[i]≠0 then some (i,Vf l[i])else badM l (i+1))else none
termination_by l.length-i
theorem Z8T{l:List Qd}{i:Nat}(h:l.length<=i):badM l i=none:=by unfold badM;rw[dif_neg (by omega)]
theorem Za9{l:List Qd}{i:Nat}(h:i<l.length):badM l i=if Vf l[i]≠0 then some (i,Vf l[i])else badM l (i+1):=by
 conv=>lhs;unfold badM
 rw[dif_pos h]
def Z1g(l:List Qd)(i:Nat):Option Nat:=if h:i<l.length then(if 0<=Xd (l[i-1]'(by omega)) l[i]then some i else Z1g l (i+1))else none
termination_by l.length-i
theorem Zaa{l:List Qd}{i:Nat}(h:l.length<=i):Z1g l i=none:=by unfold Z1g;rw[dif_neg (by omega)]
theorem Z8U{l:List Qd}{i:Nat}(h:i<l.length):Z1g l i=if 0<=Xd (l[i-1]'(by omega)) l[i]then some i else Z1g l (i+1):=by
 conv=>lhs;unfold Z1g
 rw[dif_pos h]
def Yb(l:List Qd):Nat×Int:=
 if 1048576<l.length then(0,2)else match badM l 0 with
 |some x=>x
 |none=>match Z1g l 1 with
  |some i=>(i,6)
  |none=>(0,0)
theorem Z67:∀{l:List Qd} {i:Nat},(∀x,badM l i=some x->x.2≠0)
 |l,i=>by
  intro x hx;by_cases h:i<l.length
  ·rw[Za9 h]at hx;split at hx
   ·rename_i hc;injection hx with hx;subst hx;exact hc
   ·exact Z67 x hx
  ·rw[Z8T (by omega)]at hx;cases hx
 termination_by l i=>l.length-i
theorem Z7Q:∀{l:List Qd} {i:Nat},Z1g l i=none->∀k (hk:k<l.length),1<=k->i<=k->Xd (l[k-1]'(by omega)) l[k]<0
 |l,i=>by
  intro h k hk h1 hik;have hil:i<l.length:=by omega
  rw[Z8U hil]at h;split at h
  ·cases h
  ·rename_i hc;rcases Nat.lt_or_eq_of_le hik with h2|rfl
   ·exact Z7Q h k hk h1 (by omega)
   ·omega
 termination_by l i=>l.length-i
theorem Z1m{l:List Qd}(h:(Yb l).2=0):Rise Xd l/\l.length<=1048576:=by
 unfold Yb at h;split at h
 ·cases h
 ·rename_i hl;cases hb:badM l 0 with
  |some x=>rw[hb]at h;exact(Z67 x hb h).elim
  |none=>
   rw[hb]at h;cases hf:Z1g l 1 with
   |some i=>rw[hf]at h;cases h
   |none=>exact⟨Z7p fun k hk h1=>Z7Q hf k hk h1 h1,by omega⟩
theorem Zdp:∀{l:List Qd} {i:Nat},badM l i=none->∀k (hk:k<l.length),i<=k->Vf l[k]=0
 |l,i=>by
  intro h k hk hik;rw[Za9 (by omega)]at h;split at h
  ·cases h
  ·rename_i hc;rcases Nat.lt_or_eq_of_le hik with h2|rfl
   ·exact Zdp h k hk (by omega)
   ·simpa using hc
 termination_by l i=>l.length-i
theorem Z7R{l:List Qd}(h:(Yb l).2=0):∀q∈l,Vf q=0:=by
 unfold Yb at h;split at h
 ·cases h
 ·cases hb:badM l 0 with
  |some x=>rw[hb]at h;exact(Z67 x hb h).elim
  |none=>
   intro q hq;obtain⟨k,hk,rfl⟩:=List.mem_iff_getElem.1 hq;exact Zdp hb k hk (Nat.zero_le _)
theorem Z97{q:Qd}(h:Vf q=0):JA q.s=0/\JA q.p=0/\JA q.o=0/\(q.g=ZE\/JA q.g=0)/\q.p.k=1:=by
 unfold Vf at h;split at h
 ·omega
 split at h
 ·omega
 split at h
 ·omega
 split at h
 ·omega
 split at h
 ·omega
 rename_i h1 h2 h3 h4 h5;refine⟨by omega,by omega,by omega,?_,by omega⟩;split at h
 ·exact .inl ‹_›
 ·split at h
  ·omega
  ·exact .inr h
def typB:List UInt8:=[104,116,116,112,58,47,47,119,119,119,46,119,51,46,111,114,103,47,49,57,57,57,47,48,50,47,50,50,45,114,100,102,45,115,121,110,116,97,120,45,110,115,35,116,121,112,101]
def domB:List UInt8:=[104,116,116,112,58,47,47,119,119,119,46,119,51,46,111,114,103,47,50,48,48,48,47,48,49,47,114,100,102,45,115,99,104,101,109,97,35,100,111,109,97,105,110]
def ranB:List UInt8:=[104,116,116,112,58,47,47,119,119,119,46,119,51,46,111,114,103,47,50,48,48,48,47,48,49,47,114,100,102,45,115,99,104,101,109,97,35,114,97,110,103,101]
def subP:List UInt8:=[104,116,116,112,58,47,47,119,119,119,46,119,51,46,111,114,103,47,50,48,48,48,47,48,49,47,114,100,102,45,115,99,104,101,109,97,35,115,117,98,80,114,111,112,101,114,116,121,79,102]
def subC:List UInt8:=[104,116,116,112,58,47,47,119,119,119,46,119,51,46,111,114,103,47,50,48,48,48,47,48,49,47,114,100,102,45,115,99,104,101,109,97,35,115,117,98,67,108,97,115,115,79,102]
abbrev iriT(s:List UInt8):Tm:=⟨1,s,[],[]⟩
abbrev dr2(a b:Qd):Qd×Bool:=(⟨b.s,iriT typB,a.o,a.g⟩,decide (a.p=iriT domB/\a.s=b.p))
abbrev dr3(a b:Qd):Qd×Bool:=(⟨b.o,iriT typB,a.o,a.g⟩,decide (a.p=iriT ranB/\a.s=b.p))
abbrev chn(s:List UInt8)(a b:Qd):Qd×Bool:=(⟨a.s,a.p,b.o,a.g⟩,decide (a.p=iriT s/\b.p=a.p/\a.o=b.s))
abbrev dr7(a b:Qd):Qd×Bool:=(⟨b.s,a.o,b.o,a.g⟩,decide (a.p=iriT subP/\a.s=b.p))
abbrev dr9(a b:Qd):Qd×Bool:=(⟨b.s,iriT typB,a.o,a.g⟩,decide (a.p=iriT subC/\b.p=iriT typB/\b.o=a.s))
def Zdq(n:Int)(a b:Qd):Qd×Bool:=
 if n=2 then dr2 a b else if n=3 then dr3 a b else if n=5 then chn subP a b else if n=7 then dr7 a b else if n=9 then dr9 a b else if n=11 then chn subC a b else(Z77,false)
def Z4s(n:Int)(a b:Qd):Qd×Bool:=
 if Vf a=0/\Vf b=0/\a.g=b.g/\(Zdq n a b).2=true/\Vf (Zdq n a b).1=0 then((Zdq n a b).1,true)else(Z77,false)
structure St where
 r:Int
 a:Qd
 b:Qd
 q:Qd
 deriving DecidableEq
def St.row(s:St):List SV:=[.int .i64 s.r,
 .int .i64 s.a.s.k, .str s.a.s.t, .str s.a.s.y, .str s.a.s.l, .int .i64 s.a.p.k, .str s.a.p.t, .str s.a.p.y, .str s.a.p.l, .int .i64 s.a.o.k, .str s.a.o.t, .str s.a.o.y, .str s.a.o.l, .int .i64 s.a.g.k, .str s.a.g.t, .str s.a.g.y, .str s.a.g.l,
 .int .i64 s.b.s.k, .str s.b.s.t, .str s.b.s.y, .str s.b.s.l, .int .i64 s.b.p.k, .str s.b.p.t, .str s.b.p.y, .str s.b.p.l, .int .i64 s.b.o.k, .str s.b.o.t, .str s.b.o.y, .str s.b.o.l, .int .i64 s.b.g.k, .str s.b.g.t, .str s.b.g.y, .str s.b.g.l,
 .int .i64 s.q.s.k, .str s.q.s.t, .str s.q.s.y, .str s.q.s.l, .int .i64 s.q.p.k, .str s.q.p.t, .str s.q.p.y, .str s.q.p.l, .int .i64 s.q.o.k, .str s.q.o.t, .str s.q.o.y, .str s.q.o.l, .int .i64 s.q.g.k, .str s.q.g.t, .str s.q.g.y, .str s.q.g.l]
abbrev Ziy(s:St):List SV:=s.row
instance :PlF Ziy:=⟨fun _=>rfl⟩
structure Wd where
 all:List Qd
 why:List St
 place:List (Qd×Int)
 at':List (Qd×List Qd)
def ZhX(q:Qd):Qd:=⟨q.g,ZE,q.p,ZE⟩
def ZhY(q:Qd):Qd:=⟨q.g,q.s,q.p,ZE⟩
def ZhZ(q:Qd):Qd:=⟨q.g,ZE,q.p,q.o⟩
def atL(k:Qd)(l:List (Qd×List Qd)):List Qd:=(getA k l).getD []
def Zbr(k q:Qd)(l:List (Qd×List Qd)):List (Qd×List Qd):=setA k (atL k l++ [q]) l
def putM(w:Wd)(s:St):Wd:=
 if(getA s.q w.place).isSome then w else⟨w.all++ [s.q],w.why++ [s],setA s.q (w.all.length:Int) w.place,Zbr (ZhZ s.q) s.q (Zbr (ZhY s.q) s.q (Zbr (ZhX s.q) s.q w.at'))⟩
def Zi0:Wd:=⟨[],[],[],[]⟩
def Zi1(q:Qd):St:=⟨0,Z77,Z77,q⟩
def Zi2(l:List Qd):Wd:=l.foldl (fun w q=>putM w (Zi1 q)) Zi0
abbrev intV(n:Int):SV:= .int .i64 n
abbrev qdsV(l:List Qd):List (List SV):=l.map Zd
abbrev ZfO(l:List (Qd×Int)):List (List SV):=Um KQ intV l
abbrev atR(l:List (Qd×List Qd)):List (List DC):=X1 KQ 16 qdsV l
theorem Zbs(l:List (Qd×Int)):Zh (ZfO l)=true:=Z8D KQ _ (fun _=>rfl) l
instance {l:List (Qd×Int)}:Pl (ZfO l):=⟨Zbs l⟩
theorem ZgF(l:List (Qd×List Qd)):Zt (atR l)=true:=Z9T KQ 16 _ (fun b=>Zz _ (fun _=>rfl) b) l
instance {l:List (Qd×List Qd)}:PlD (atR l):=⟨ZgF l⟩
theorem ZgG(k q k':Qd)(m:List (Qd×List Qd)):atL k' (Zbr k q m)=if k'=k then atL k m++ [q]else atL k' m:=by
 unfold Zbr atL;rw[Z2k];split<;>rfl
def ZeY(i:Nat)(q:Qd):Qd:=match i with|0=>ZhX q|1=>ZhY q|_=>ZhZ q
def atN(q:Qd)(l:List (Qd×List Qd)):Nat->List (Qd×List Qd)
 |0=>l
 |i+1=>Zbr (ZeY i q) q (atN q l i)
structure WdOK(w:Wd):Prop where
 len:w.why.length=w.all.length
 mem:∀q,q∈w.all<->(getA q w.place).isSome=true
 at3:∀k,(atL k w.at').length<=3*w.all.length
theorem ZgH{w:Wd}{s:St}(h:(getA s.q w.place).isSome=true):putM w s=w:=by unfold putM;rw[if_pos h]
theorem Zi3{w:Wd}{s:St}(h:getA s.q w.place=none):putM w s=⟨w.all++ [s.q],w.why++ [s],setA s.q (w.all.length:Int) w.place,atN s.q w.at' 3⟩:=by unfold putM;rw[h];rfl
inductive Der(l:List Qd):Qd->Prop
 |base {q:Qd} (h:q∈l):Der l q
 |step {n:Int} {a b:Qd} (ha:Der l a) (hb:Der l b) (h:(Z4s n a b).2=true):Der l (Z4s n a b).1
def Ziz(first:Bool)(q o:Qd)(n:Int):Option St:=
 let a:=if first then q else o
 let b:=if first then o else q
 if(Z4s n a b).2 then some ⟨n,a,b,(Z4s n a b).1⟩else none
def ZiA(first:Bool)(q:Qd)(others:List Qd)(ns:List Int):List St:=others.flatMap fun o=>ns.filterMap (Ziz first q o)
def Zi4{σ:Type}(T:σ->St->σ×Bool):List St->σ->σ×Bool
 | [],s=>(s,true)
 |c::cs,s=>if(T s c).2 then Zi4 T cs (T s c).1 else((T s c).1,false)
abbrev Ask:=Bool×Qd×List Int
def asks(q:Qd):List Ask:=[(true,⟨q.g,ZE,q.s,ZE⟩,[2,3,7]),(true,⟨q.g,q.o,q.p,ZE⟩,[5,11]),(true,⟨q.g,ZE,iriT typB,q.s⟩,[9]),
 (false,⟨q.g,q.p,iriT domB,ZE⟩,[2]),(false,⟨q.g,q.p,iriT ranB,ZE⟩,[3]),(false,⟨q.g,q.p,iriT subP,ZE⟩,[7]),
 (false,⟨q.g,ZE,q.p,q.s⟩,[5,11]),(false,⟨q.g,q.o,iriT subC,ZE⟩,[9])]
def askM{σ:Type}(T:σ->St->σ×Bool)(rd:σ->List (Qd×List Qd))(q:Qd)(a:Ask)(s:σ):σ×Bool:=Zi4 T (ZiA a.1 q (atL a.2.1 (rd s)) a.2.2) s
def askL{σ:Type}(T:σ->St->σ×Bool)(rd:σ->List (Qd×List Qd))(q:Qd):List Ask->σ->σ×Bool
 | [],s=>(s,true)
 |a::as',s=>if(askM T rd q a s).2 then askL T rd q as' (askM T rd q a s).1 else((askM T rd q a s).1,false)
structure AtOK(w:Wd):Prop where
 sub:∀k o,o∈atL k w.at'->o∈w.all
 all:∀o∈w.all,∀k,k<3->o∈atL (ZeY k o) w.at'
 nodup:w.all.Nodup
theorem Zdr(q:Qd)(m:List (Qd×List Qd))(k o:Qd):∀i,o∈atL k (atN q m i)<->o∈atL k m\/(o=q/\∃j,j<i/\k=ZeY j q)
 |0=>by simp[atN]
 |i+1=>by
  unfold atN;rw[ZgG];have ih:=fun k=>Zdr q m k o i;by_cases e:k=ZeY i q
  ·subst e;rw[if_pos rfl,List.mem_append,ih,List.mem_singleton];constructor
   ·rintro((h|⟨h1,j,h2,h3⟩)|rfl)
    ·exact .inl h
    ·exact .inr ⟨h1,j,by omega,h3⟩
    ·exact .inr ⟨rfl,i,by omega,rfl⟩
   ·rintro(h|⟨h1,j,h2,h3⟩)
    ·exact .inl (.inl h)
    ·exact .inr h1
  ·rw[if_neg e,ih];constructor
   ·rintro(h|⟨h1,j,h2,h3⟩)
    ·exact .inl h
    ·exact .inr ⟨h1,j,by omega,h3⟩
   ·rintro(h|⟨h1,j,h2,h3⟩)
    ·exact .inl h
    ·refine .inr ⟨h1,j,?_,h3⟩;rcases Nat.lt_or_eq_of_le (Nat.le_of_lt_succ h2)with h|rfl
     ·exact h
     ·exact(e h3).elim
def ZgI(most:Int)(w:Wd)(s:St):Wd×Bool:=(putM w s,decide (((putM w s).all.length:Int)<=most))
def SOK(known:List Qd)(s:St):Prop:=s.a∈known/\s.b∈known/\(Z4s s.r s.a s.b).2=true/\(Z4s s.r s.a s.b).1=s.q
theorem SOK.mono{k k':List Qd}{s:St}(h:SOK k s)(hs:∀q∈k,q∈k'):SOK k' s:=⟨hs _ h.1,hs _ h.2.1,h.2.2⟩
structure WhyI(l:List Qd)(w:Wd):Prop where
 here:∀(i:Nat) q,w.all[i]?=some q->getA q w.place=some (i:Int)
 why:∀(i:Nat) s,w.why[i]?=some s->w.all[i]?=some s.q/\(s.q∈l\/SOK (w.all.take i) s)
structure CInv(l:List Qd)(w:Wd):Prop where
 ok:WdOK w
 spots:AtOK w
 sub:∀q∈l,q∈w.all
 der:∀q∈w.all,Der l q
 why:WhyI l w
 pre:(Zi2 l).all<+:w.all
theorem Zca(w:Wd)(s:St)(k o:Qd)(h:o∈atL k w.at'):o∈atL k (putM w s).at':=by
 cases hg:getA s.q w.place with
 |some v=>rw[ZgH (by rw[hg];rfl)];exact h
 |none=>rw[Zi3 hg];exact(Zdr s.q w.at' k o 3).2 (.inl h)
structure Grown(l:List Qd)(most:Int)(w:Wd)(r:Wd×Bool):Prop where
 inv:CInv l r.1
 pre:w.all<+:r.1.all
 spots:∀k o,o∈atL k w.at'->o∈atL k r.1.at'
 less:r.2=false->most< (r.1.all.length:Int)
 upto:(w.all.length:Int)<=most->(r.1.all.length:Int)<=most+1
 yes:r.2=true->(w.all.length:Int)<=most->(r.1.all.length:Int)<=most
theorem Grown.refl{l:List Qd}{most:Int}{w:Wd}(h:CInv l w):Grown l most w (w,true):=⟨h,List.prefix_rfl,fun _ _ h=>h,(fun h=>by cases h),(fun h=>by show(w.all.length:Int)<=most+1;omega),fun _ h=>h⟩
def ZiB(most:Int)(q:Qd)(w:Wd):Wd×Bool:=askL (ZgI most) Wd.at' q (asks q) w
def runW(most:Int)(w:Wd):Nat->Wd
 |0=>w
 |i+1=>match(runW most w i).all[i]? with
  |some q=>(ZiB most q (runW most w i)).1
  |none=>runW most w i
abbrev More(most:Int)(i:Nat)(w:Wd):Prop:=i<w.all.length/\(w.all.length:Int)<=most
def ZiC(most:Int)(w:Wd)(n:Nat)(v:Wd):Prop:=v=runW most w n/\∀j,j<n->More most j (runW most w j)
theorem XW(most:Int)(w:Wd):ZiC most w 0 w:=⟨rfl,fun j h=>by omega⟩
structure DrIn(l out:List Qd):Prop where
 nodup:out.Nodup
 new:∀r∈out,r∉l
 drawn:∀r∈out,∃n a b,a∈l/\b∈l/\(Z4s n a b).2=true/\r=(Z4s n a b).1
structure DrawsOf(l out:List Qd):Prop extends DrIn l out where
 all:∀a∈l,∀b∈l,∀n,(Z4s n a b).2=true->(Z4s n a b).1∈l++out
def ObIn(base l:List Qd):Prop:=∀q∈l,∃t∈base,q.o=t.o
structure RInv(l m:List Qd):Prop where
 rise:Rise Xd m
 sub:∀q∈l,q∈m
 der:∀q∈m,Der l q
 ob:ObIn l m
end Go.Our
set_option maxRecDepth 20000
namespace Go.Our
open Go.Sx
end Go.Our
