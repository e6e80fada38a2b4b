/- Part 12: SplitM, TagM, TermM, ValidM, ValidN, InferM, WorldM, CloseM, DrawsM, ClosR, LeastM. Conditions: as each part says. -/
import Derived.Test.YtlcbipfmodcedaaGreatDoorFrm7
set_option linter.unusedVariables false
set_option linter.unusedSimpArgs false
namespace Go.Our
open Go.Sx
def Zu:List UInt8->List (List UInt8)
 | []=>[[]]
 |c::t=>if c=45 then []::Zu t else match Zu t with
  |h::r=>(c::h)::r
  | []=>[[c]]
theorem FX:∀s,Zu s≠ []
 | []=>by simp[Zu]
 |c::t=>by
  unfold Zu;split
  simp;split<;>simp
theorem Jj:∀s:List UInt8,(Zu s).length=s.count 45+1
 | []=>rfl
 |c::t=>by
  have ih:=Jj t;unfold Zu;split
  rename_i h;subst h;simp[ih]
  .rename_i h;split
   .rename_i h' r e;rw[e]at ih;simp at ih⊢;rw[List.count_cons_of_ne (by simpa using h)];omega
   rename_i e;exact(FX t e).elim
theorem L3:∀{s:List UInt8},Lib.indexByte s 45= -1->Zu s=[s]
 | [],_=>rfl
 |c::t,h=>by
  unfold Lib.indexByte at h;by_cases hc:c=45
  subst hc;simp at h
  .have hge:=Lib.indexByte_ge t 45
   have:Lib.indexByte t 45= -1:=by
    simp[hc]at h;apply xS;intro hn;have:=h hn;omega
   unfold Zu;rw[z7 hc,L3 this]
theorem L4:∀{s:List UInt8} {m:Nat},Lib.indexByte s 45=m->m<s.length/\Zu s=s.take m::Zu (s.drop (m+1))
 | [],m,h=>by unfold Lib.indexByte at h;omega
 |c::t,m,h=>by
  unfold Lib.indexByte at h;by_cases hc:c=45
  .subst hc;simp at h;obtain rfl:m=0:=by omega
   simp[Zu]
  .have hge:=Lib.indexByte_ge t 45;simp[hc]at h;split at h
   omega
   .obtain⟨k,rfl⟩:∃k,m=k+1:=⟨m-1,by omega⟩;have ih:=L4 (s:=t) (m:=k) (by omega);refine⟨by simp;omega,?_⟩;conv=>lhs;unfold Zu
    rw[z7 hc,ih.2];simp only[List.take_succ_cons,vC]
theorem FY(s:List UInt8):(Zu s).length<=s.length+1:=by
 rw[Jj];have:=List.count_le_length (a:=(45:UInt8)) (l:=s);omega
def Zf(s:List UInt8):List SV:=[.str s]
theorem Yj(l:List (List UInt8)):Zj (l.map Zf)=true:=ZD _ (fun _=>rfl) l
instance :dZ Zf:=⟨fun _=>rfl⟩
def nq(d:List (List UInt8))(k:Nat):List (List SV):=d.map Zf++List.replicate k (Zf [])
theorem L5(d:List (List UInt8))(k:Nat):Zj (nq d k)=true:=by
 unfold nq;refine VN (Yj d) ?_
 induction k with
 |zero=>rfl
 |succ k ih=>rw[List.replicate_succ];simp only[Zj,ih];rfl
theorem L6{d:List (List UInt8)}{k i:Nat}(h:i=d.length)(hk:0<k):(nq d k)[i]?=some (Zf []):=by
 subst h;unfold nq;rw[zw (by simp)];simp[vN,hk]
theorem L7{d:List (List UInt8)}{k i:Nat}{p:List UInt8}(h:i=d.length)(hk:0<k):(nq d k).set i [.str p]=nq (d++ [p]) (k-1):=by
 subst h;obtain⟨j,rfl⟩:∃j,k=j+1:=⟨k-1,by omega⟩;unfold nq;rw[vn _ _ (by simp)];simp[List.replicate_succ,Zf]
end Go.Our
namespace Go.Our
open Go.Sx
def Xp(s:List UInt8):Bool:=ZH s 1 1 false&&!Y2 s
def ZW(p:List UInt8->Bool):List (List UInt8)->Nat
 | []=>0
 |s::l=>if p s=true then ZW p l+1 else 0
theorem VQ(p:List UInt8->Bool):∀l,ZW p l<=l.length
 | []=>by simp[ZW]
 |s::l=>by
  have:=VQ p l;unfold ZW;split<;>simp<;>omega
abbrev YK(least:Int):List UInt8->Bool:=fun s=>ZH s least 8 false
def jy:Nat->List (List UInt8)->List (List UInt8)
 |0,l=>l
 |_+1,[]=>[]
 |n+1,s::l=>if ZH s 3 3 true=true then jy n l else s::l
def JK:List (List UInt8)->Option (List (List UInt8))
 | []=>none
 |s::l=>if ZH s 2 8 true=true then(if 3<s.length then some l else some (jy 3 l))else none
def J4(p:List UInt8->Bool):List (List UInt8)->List (List UInt8)
 | []=>[]
 |s::l=>if p s=true then l else s::l
def YN(seen:List (List UInt8)):List (List UInt8)->Option (List (List UInt8)×List (List UInt8))
 | []=>some ([],seen)
 |s::l=>if Jn s=true then(if Z7 s∈seen then none else YN (seen++ [Z7 s]) l)else some (s::l,seen)
def Y3(seen:List (List UInt8)):List (List UInt8)->Option (List (List UInt8))
 | []=>some []
 |s::l=>if Xp s=true then
   (if ZW (YK 2) l=0\/Z7 s∈seen then none else Y3 (seen++ [Z7 s]) (l.drop (ZW (YK 2) l)))
   else some (s::l)
termination_by l=>l.length
decreasing_by simp;omega
def Xq(l:List (List UInt8)):Option (List (List UInt8)):=
 match YN [] (J4 Xf (J4 (fun s=>ZH s 4 4 true) l))with
 |none=>none
 |some (l,seen)=>Y3 seen l
def iX(p:List UInt8->Bool):List (List UInt8)->Bool
 | []=>false
 |s::_=>p s
def VR:List (List UInt8)->Bool
 | []=>true
 |s::l=>if Y2 s=true then decide (ZW (YK 1) l≠0/\ZW (YK 1) l=l.length)else false
def uX(l:List (List UInt8)):Bool:=
 if iX Y2 l=true then VR l else
 match JK l with
 |none=>false
 |some l=>match Xq l with
  |none=>false
  |some l=>VR l
theorem CB:∀s:List UInt8,((Zu s).map List.length).sum+(Zu s).length=s.length+1
 | []=>rfl
 |c::t=>by
  have ih:=CB t;have hne:=FX t;unfold Zu;split
  simp only[zG,List.sum_cons,List.length_cons,List.length_nil];omega
  .split
   .rename_i h r e;rw[e]at ih;simp only[zG,List.sum_cons,List.length_cons]at ih⊢;omega
   rename_i e;exact(hne e).elim
theorem L8:∀(u:List UInt8) (n:Nat),(∀c∈u.take n,c≠45)->u[n]?=some 45->Zu u=u.take n::Zu (u.drop (n+1))
 | [],n,_,h=>by simp at h
 |c::t,0,_,h=>by
  have h:c=45:=by simpa using h
  subst h;conv=>lhs;unfold Zu
  rw[zf rfl];rfl
 |c::t,n+1,h,h2=>by
  have hc:c≠45:=h c (by simp);have ih:=L8 t n (fun d hd=>h d (by simp[hd])) (by simpa using h2);conv=>lhs;unfold Zu
  rw[z7 hc,ih];rfl
theorem L9:∀(u:List UInt8),(∀c∈u,c≠45)->Zu u=[u]
 | [],_=>rfl
 |c::t,h=>by
  have hc:c≠45:=h c (by simp);have ih:=L9 t (fun d hd=>h d (by simp[hd]));unfold Zu;rw[z7 hc,ih]
theorem Zc8:JT true=Vi:=by funext c;simp[JT]
def oa(least most:Int)(digits:Bool)(s:List UInt8):Bool:=decide (least<=s.length/\(s.length:Int)<=most)&& (if digits=true then qq XJ s 0 else qq Vi s 0)
theorem J0(least most:Int)(s:List UInt8):oa least most false s=ZH s least most true:=by
 unfold oa ZH;rw[Zc8,Bool.and_comm];rfl
theorem Zc9{s:List UInt8}(h:s.length=3):qq XJ s 0=(XJ (Z1 s 0)&&XJ (Z1 s 1)&&XJ (Z1 s 2)):=by
 rw[JJ (by omega),JJ (by omega),JJ (by omega),Wv (by omega),zF,vL];rfl
theorem Jk(s:List UInt8):Xf s=(oa 2 2 false s||oa 3 3 true s):=by
 unfold Xf;rw[J0];congr 1;unfold oa;by_cases h:s.length=3
 rw[zf rfl,Zc9 h];simp[h,vL]
 .have:decide ((3:Int)<=s.length/\(s.length:Int)<=3)=false:=y5 (by omega);rw[this];simp[h]
theorem CC(s:List UInt8):ZH s 2 8 true=(oa 2 3 false s||oa 4 8 false s):=by
 rw[J0,J0];unfold ZH;cases qq (JT true) s 0
 simp
 .simp only[xd];rw[zX];simp;omega
theorem X1(s:List UInt8):Y2 s=(Z7 s==[120]):=by
 unfold Y2 Z7;rcases s with _|⟨a,_|⟨b,t⟩⟩
 rfl
 .rw[zX];simp only[yU,xh,zG,yP,yA,xm];unfold gq;constructor
  rintro(rfl|rfl)<;>rfl
  .intro h;split at h
   .rename_i h1;right
    have h2:=z8 UInt8.toNat h;rw[xA (by show a.toNat+32<256;omega)]at h2;have:a.toNat=88:=by simpa using h2
    exact UInt8.toNat_inj.1 (by simpa using this)
   exact .inl h
 simp
def Yk:List UInt8:=[104,116,116,112,58,47,47,119,119,119,46,119,51,46,111,114,103,47,49,57,57,57,47,48,50,47,50,50,45,114,100,102,45,115,121,110,116,97,120,45,110,115,35,108,97,110,103,83,116,114,105,110,103]
def eR(t y l:List UInt8):Int:=
 if 65536<t.length then 2 else if 0<=eM t 0 then 40 else if dP y≠0 then dP y else
 if l≠ []/\65536<l.length then 2 else if l≠ []/\(¬uX (Zu l)=true\/Z7 l≠l)then 61 else
 if(l≠ []/\¬y=Yk)\/(l=[]/\y=Yk)then 71 else 0
def JA(x:Tm):Int:=
 if x.k=1\/x.k=2 then(if x.y≠ []\/x.l≠ []then 70 else if x.k=1 then dP x.t else if 65536<x.t.length then 2 else iW x.t)
 else if x.k=3 then eR x.t x.y x.l else 70
def Vj(q:Qd):Int:=
 if ¬(q.s.k=1\/q.s.k=2)then 70 else if JA q.s≠0 then JA q.s else
 if ¬q.p.k=1 then 70 else if JA q.p≠0 then JA q.p else
 if JA q.o≠0 then JA q.o else
 if q.g=ZC then 0 else if ¬(q.g.k=1\/q.g.k=2)then 70 else JA q.g
theorem Z9y{x:Tm}(h:¬(x.k=1\/x.k=2\/x.k=3)):JA x=70:=by
 unfold JA;rw[z7 (by omega),z7 (by omega)]
theorem Zca{c:UInt8}(h:65<=c.toNat/\c.toNat<=90):gq c≠c:=by
 unfold gq;rw[zf h];intro he;have:=z8 UInt8.toNat he;rw[xA (by show c.toNat+32<256;omega)]at this;omega
theorem La{s:List UInt8}{i:Nat}(h:i<s.length):(Z7 s)[i]?=some (gq s[i]):=by
 unfold Z7;rw[z6,z1 h];rfl
theorem Zgi{s:List UInt8}{i:Nat}(h:i<s.length)(hu:65<=Z1 s i/\Z1 s i<=90):Z7 s≠s:=by
 intro he;have h1:=La h;rw[he,z1 h]at h1;have hb:Z1 s i=(s[i].toNat:Int):=by unfold Z1;rw[Int.toNat_natCast,List.getD,z1 h];rfl
 exact Zca (by omega) (Option.some.inj h1).symm
theorem Zcb{s:List UInt8}(hu:∀i:Nat,i<s.length->¬(65<=Z1 s i/\Z1 s i<=90)):Z7 s=s:=by
 apply yu;intro i;by_cases h:i<s.length
 .rw[La h,z1 h];have hb:Z1 s i=(s[i].toNat:Int):=by unfold Z1;rw[Int.toNat_natCast,List.getD,z1 h];rfl
  have:=hu i h;rw[CA (by omega)]
 rw[zW (by unfold Z7;simp;omega),zW (by omega)]
def jA(l:List Qd)(i:Nat):Option (Nat×Int):=if h:i<l.length then(if Vj l[i]≠0 then some (i,Vj l[i])else jA l (i+1))else none
termination_by l.length-i
theorem CD{l:List Qd}{i:Nat}(h:l.length<=i):jA l i=none:=by unfold jA;rw[yQ (by omega)]
theorem FZ{l:List Qd}{i:Nat}(h:i<l.length):jA l i=if Vj l[i]≠0 then some (i,Vj l[i])else jA l (i+1):=by
 conv=>lhs;unfold jA
 rw[yp h]
def oc(l:List Qd)(i:Nat):Option Nat:=if h:i<l.length then(if 0<=ZP (l[i-1]'(by omega)) l[i]then some i else oc l (i+1))else none
termination_by l.length-i
theorem Lb{l:List Qd}{i:Nat}(h:l.length<=i):oc l i=none:=by unfold oc;rw[yQ (by omega)]
theorem CF{l:List Qd}{i:Nat}(h:i<l.length):oc l i=if 0<=ZP (l[i-1]'(by omega)) l[i]then some i else oc l (i+1):=by
 conv=>lhs;unfold oc
 rw[yp h]
def YL(l:List Qd):Nat×Int:=
 if 1048576<l.length then(0,2)else match jA l 0 with
 |some x=>x
 |none=>match oc l 1 with
  |some i=>(i,6)
  |none=>(0,0)
theorem CU:∀{l:List Qd} {i:Nat},(∀x,jA l i=some x->x.2≠0)
 |l,i=>by
  intro x hx;by_cases h:i<l.length
  .rw[FZ h]at hx;split at hx
   rename_i hc;injection hx with hx;subst hx;exact hc
   exact CU x hx
  rw[CD (by omega)]at hx;cases hx
 termination_by l i=>l.length-i
theorem Lz:∀{l:List Qd} {i:Nat},oc l i=none->∀k (hk:k<l.length),1<=k->i<=k->ZP (l[k-1]'(by omega)) l[k]<0
 |l,i=>by
  intro h k hk h1 hik;have hil:i<l.length:=by omega
  rw[CF hil]at h;split at h
  cases h
  .rename_i hc;rcases vJ hik with h2|rfl
   exact Lz h k hk h1 (by omega);omega
 termination_by l i=>l.length-i
theorem Wy{l:List Qd}(h:(YL l).2=0):wQ ZP l/\l.length<=1048576:=by
 unfold YL at h;split at h
 cases h
 .rename_i hl;cases hb:jA l 0 with
  |some x=>rw[hb]at h;exact(CU x hb h).elim
  |none=>
   rw[hb]at h;cases hf:oc l 1 with
   |some i=>rw[hf]at h;cases h
   |none=>exact⟨Z87 fun k hk h1=>Lz hf k hk h1 h1,by omega⟩
theorem LA:∀{l:List Qd} {i:Nat},jA l i=none->∀k (hk:k<l.length),i<=k->Vj l[k]=0
 |l,i=>by
  intro h k hk hik;rw[FZ (by omega)]at h;split at h
  cases h
  .rename_i hc;rcases vJ hik with h2|rfl
   exact LA h k hk (by omega);simpa using hc
 termination_by l i=>l.length-i
theorem Z8z{l:List Qd}(h:(YL l).2=0):∀q∈l,Vj q=0:=by
 unfold YL at h;split at h
 cases h
 .cases hb:jA l 0 with
  |some x=>rw[hb]at h;exact(CU x hb h).elim
  |none=>
   intro q hq;obtain⟨k,hk,rfl⟩:=yM.1 hq;exact LA hb k hk (ve _)
theorem Z9N{q:Qd}(h:Vj q=0):JA q.s=0/\JA q.p=0/\JA q.o=0/\(q.g=ZC\/JA q.g=0)/\q.p.k=1:=by
 unfold Vj at h;split at h
 omega;split at h
 omega;split at h
 omega;split at h
 omega;split at h
 omega;rename_i h1 h2 h3 h4 h5;refine⟨by omega,by omega,by omega,?_,by omega⟩;split at h
 exact .inl ‹_›
 .split at h
  omega;exact .inr h
def nv:List UInt8:=[104,116,116,112,58,47,47,119,119,119,46,119,51,46,111,114,103,47,49,57,57,57,47,48,50,47,50,50,45,114,100,102,45,115,121,110,116,97,120,45,110,115,35,116,121,112,101]
def KU:List UInt8:=[104,116,116,112,58,47,47,119,119,119,46,119,51,46,111,114,103,47,50,48,48,48,47,48,49,47,114,100,102,45,115,99,104,101,109,97,35,100,111,109,97,105,110]
def KV:List UInt8:=[104,116,116,112,58,47,47,119,119,119,46,119,51,46,111,114,103,47,50,48,48,48,47,48,49,47,114,100,102,45,115,99,104,101,109,97,35,114,97,110,103,101]
def tK:List UInt8:=[104,116,116,112,58,47,47,119,119,119,46,119,51,46,111,114,103,47,50,48,48,48,47,48,49,47,114,100,102,45,115,99,104,101,109,97,35,115,117,98,80,114,111,112,101,114,116,121,79,102]
def tL:List UInt8:=[104,116,116,112,58,47,47,119,119,119,46,119,51,46,111,114,103,47,50,48,48,48,47,48,49,47,114,100,102,45,115,99,104,101,109,97,35,115,117,98,67,108,97,115,115,79,102]
abbrev jS(s:List UInt8):Tm:=⟨1,s,[],[]⟩
abbrev dr2(a b:Qd):Qd×Bool:=(⟨b.s,jS nv,a.o,a.g⟩,decide (a.p=jS KU/\a.s=b.p))
abbrev dr3(a b:Qd):Qd×Bool:=(⟨b.o,jS nv,a.o,a.g⟩,decide (a.p=jS KV/\a.s=b.p))
abbrev LC(s:List UInt8)(a b:Qd):Qd×Bool:=(⟨a.s,a.p,b.o,a.g⟩,decide (a.p=jS s/\b.p=a.p/\a.o=b.s))
abbrev dr7(a b:Qd):Qd×Bool:=(⟨b.s,a.o,b.o,a.g⟩,decide (a.p=jS tK/\a.s=b.p))
abbrev dr9(a b:Qd):Qd×Bool:=(⟨b.s,jS nv,a.o,a.g⟩,decide (a.p=jS tL/\b.p=jS nv/\b.o=a.s))
def CV(n:Int)(a b:Qd):Qd×Bool:=
 if n=2 then dr2 a b else if n=3 then dr3 a b else if n=5 then LC tK a b else if n=7 then dr7 a b else if n=9 then dr9 a b else if n=11 then LC tL a b else(Kl,false)
def mb(n:Int)(a b:Qd):Qd×Bool:=
 if Vj a=0/\Vj b=0/\a.g=b.g/\(CV n a b).2=true/\Vj (CV n a b).1=0 then((CV n a b).1,true)else(Kl,false)
structure St where
 r:Int
 a:Qd
 b:Qd
 q:Qd
 deriving DecidableEq
def St.row(s:St):List SV:=[.int .i64 s.r,
 .int .i64 s.a.s.k, .str s.a.s.t, .str s.a.s.y, .str s.a.s.l, .int .i64 s.a.p.k, .str s.a.p.t, .str s.a.p.y, .str s.a.p.l, .int .i64 s.a.o.k, .str s.a.o.t, .str s.a.o.y, .str s.a.o.l, .int .i64 s.a.g.k, .str s.a.g.t, .str s.a.g.y, .str s.a.g.l,
 .int .i64 s.b.s.k, .str s.b.s.t, .str s.b.s.y, .str s.b.s.l, .int .i64 s.b.p.k, .str s.b.p.t, .str s.b.p.y, .str s.b.p.l, .int .i64 s.b.o.k, .str s.b.o.t, .str s.b.o.y, .str s.b.o.l, .int .i64 s.b.g.k, .str s.b.g.t, .str s.b.g.y, .str s.b.g.l,
 .int .i64 s.q.s.k, .str s.q.s.t, .str s.q.s.y, .str s.q.s.l, .int .i64 s.q.p.k, .str s.q.p.t, .str s.q.p.y, .str s.q.p.l, .int .i64 s.q.o.k, .str s.q.o.t, .str s.q.o.y, .str s.q.o.l, .int .i64 s.q.g.k, .str s.q.g.t, .str s.q.g.y, .str s.q.g.l]
abbrev ZkG(s:St):List SV:=s.row
instance :dZ ZkG:=⟨fun _=>rfl⟩
structure Wd where
 all:List Qd
 why:List St
 place:List (Qd×Int)
 at':List (Qd×List Qd)
def LD(q:Qd):Qd:=⟨q.g,ZC,q.p,ZC⟩
def LF(q:Qd):Qd:=⟨q.g,q.s,q.p,ZC⟩
def LG(q:Qd):Qd:=⟨q.g,ZC,q.p,q.o⟩
def bP(k:Qd)(l:List (Qd×List Qd)):List Qd:=(wL k l).getD []
def Q0(k q:Qd)(l:List (Qd×List Qd)):List (Qd×List Qd):=wM k (bP k l++ [q]) l
def cT(w:Wd)(s:St):Wd:=
 if(wL s.q w.place).isSome then w else⟨w.all++ [s.q],w.why++ [s],wM s.q (w.all.length:Int) w.place,Q0 (LG s.q) s.q (Q0 (LF s.q) s.q (Q0 (LD s.q) s.q w.at'))⟩
def Zk2:Wd:=⟨[],[],[],[]⟩
def Zk3(q:Qd):St:=⟨0,Kl,Kl,q⟩
def Zk4(l:List Qd):Wd:=l.foldl (fun w q=>cT w (Zk3 q)) Zk2
abbrev jC(n:Int):SV:= .int .i64 n
abbrev CW(l:List Qd):List (List SV):=l.map Z3
abbrev LH(l:List (Qd×Int)):List (List SV):=Up KQ jC l
abbrev atR(l:List (Qd×List Qd)):List (List DC):=YU KQ 16 CW l
theorem Zco(l:List (Qd×Int)):Zj (LH l)=true:=DT KQ _ (fun _=>rfl) l
instance {l:List (Qd×Int)}:Pl (LH l):=⟨Zco l⟩
theorem Ziq(l:List (Qd×List Qd)):ZB (atR l)=true:=M1 KQ 16 _ (fun b=>ZD _ (fun _=>rfl) b) l
instance {l:List (Qd×List Qd)}:bu (atR l):=⟨Ziq l⟩
theorem Zir(k q k':Qd)(m:List (Qd×List Qd)):bP k' (Q0 k q m)=if k'=k then bP k m++ [q]else bP k' m:=by
 unfold Q0 bP;rw[Kr];split<;>rfl
def Hg(i:Nat)(q:Qd):Qd:=match i with|0=>LD q|1=>LF q|_=>LG q
def KW(q:Qd)(l:List (Qd×List Qd)):Nat->List (Qd×List Qd)
 |0=>l
 |i+1=>Q0 (Hg i q) q (KW q l i)
structure CX(w:Wd):Prop where
 len:w.why.length=w.all.length
 mem:∀q,q∈w.all<->(wL q w.place).isSome=true
 at3:∀k,(bP k w.at').length<=3*w.all.length
theorem Zis{w:Wd}{s:St}(h:(wL s.q w.place).isSome=true):cT w s=w:=by unfold cT;rw[zf h]
theorem Zk5{w:Wd}{s:St}(h:wL s.q w.place=none):cT w s=⟨w.all++ [s.q],w.why++ [s],wM s.q (w.all.length:Int) w.place,KW s.q w.at' 3⟩:=by unfold cT;rw[h];rfl
inductive Q1(l:List Qd):Qd->Prop
 |base {q:Qd} (h:q∈l):Q1 l q
 |step {n:Int} {a b:Qd} (ha:Q1 l a) (hb:Q1 l b) (h:(mb n a b).2=true):Q1 l (mb n a b).1
def ZkH(first:Bool)(q o:Qd)(n:Int):Option St:=
 let a:=if first then q else o
 let b:=if first then o else q
 if(mb n a b).2 then some ⟨n,a,b,(mb n a b).1⟩else none
def ZkI(first:Bool)(q:Qd)(others:List Qd)(ns:List Int):List St:=others.flatMap fun o=>ns.filterMap (ZkH first q o)
def LI{σ:Type}(T:σ->St->σ×Bool):List St->σ->σ×Bool
 | [],s=>(s,true)
 |c::cs,s=>if(T s c).2 then LI T cs (T s c).1 else((T s c).1,false)
abbrev Ask:=Bool×Qd×List Int
def asks(q:Qd):List Ask:=[(true,⟨q.g,ZC,q.s,ZC⟩,[2,3,7]),(true,⟨q.g,q.o,q.p,ZC⟩,[5,11]),(true,⟨q.g,ZC,jS nv,q.s⟩,[9]),
 (false,⟨q.g,q.p,jS KU,ZC⟩,[2]),(false,⟨q.g,q.p,jS KV,ZC⟩,[3]),(false,⟨q.g,q.p,jS tK,ZC⟩,[7]),
 (false,⟨q.g,ZC,q.p,q.s⟩,[5,11]),(false,⟨q.g,q.o,jS tL,ZC⟩,[9])]
def tM{σ:Type}(T:σ->St->σ×Bool)(rd:σ->List (Qd×List Qd))(q:Qd)(a:Ask)(s:σ):σ×Bool:=LI T (ZkI a.1 q (bP a.2.1 (rd s)) a.2.2) s
def KX{σ:Type}(T:σ->St->σ×Bool)(rd:σ->List (Qd×List Qd))(q:Qd):List Ask->σ->σ×Bool
 | [],s=>(s,true)
 |a::as',s=>if(tM T rd q a s).2 then KX T rd q as' (tM T rd q a s).1 else((tM T rd q a s).1,false)
structure CY(w:Wd):Prop where
 sub:∀k o,o∈bP k w.at'->o∈w.all
 all:∀o∈w.all,∀k,k<3->o∈bP (Hg k o) w.at'
 nodup:w.all.Nodup
theorem LJ(q:Qd)(m:List (Qd×List Qd))(k o:Qd):∀i,o∈bP k (KW q m i)<->o∈bP k m\/(o=q/\∃j,j<i/\k=Hg j q)
 |0=>by simp[KW]
 |i+1=>by
  unfold KW;rw[Zir];have ih:=fun k=>LJ q m k o i;by_cases e:k=Hg i q
  .subst e;rw[zf rfl,zQ,ih,zI];constructor
   .rintro((h|⟨h1,j,h2,h3⟩)|rfl);exact .inl h;exact .inr ⟨h1,j,by omega,h3⟩;exact .inr ⟨rfl,i,by omega,rfl⟩
   .rintro(h|⟨h1,j,h2,h3⟩);exact .inl (.inl h);exact .inr h1
  .rw[z7 e,ih];constructor
   .rintro(h|⟨h1,j,h2,h3⟩);exact .inl h;exact .inr ⟨h1,j,by omega,h3⟩
   .rintro(h|⟨h1,j,h2,h3⟩);exact .inl h
    .refine .inr ⟨h1,j,?_,h3⟩;rcases vJ (Nat.le_of_lt_succ h2)with h|rfl
     exact h;exact(e h3).elim
def Zit(most:Int)(w:Wd)(s:St):Wd×Bool:=(cT w s,decide (((cT w s).all.length:Int)<=most))
def nN(known:List Qd)(s:St):Prop:=s.a∈known/\s.b∈known/\(mb s.r s.a s.b).2=true/\(mb s.r s.a s.b).1=s.q
theorem nN.mono{k k':List Qd}{s:St}(h:nN k s)(hs:∀q∈k,q∈k'):nN k' s:=⟨hs _ h.1,hs _ h.2.1,h.2.2⟩
structure CZ(l:List Qd)(w:Wd):Prop where
 here:∀(i:Nat) q,w.all[i]?=some q->wL q w.place=some (i:Int)
 why:∀(i:Nat) s,w.why[i]?=some s->w.all[i]?=some s.q/\(s.q∈l\/nN (w.all.take i) s)
structure KY(l:List Qd)(w:Wd):Prop where
 ok:CX w
 KZ:CY w
 sub:∀q∈l,q∈w.all
 der:∀q∈w.all,Q1 l q
 why:CZ l w
 pre:(Zk4 l).all<+:w.all
theorem EY(w:Wd)(s:St)(k o:Qd)(h:o∈bP k w.at'):o∈bP k (cT w s).at':=by
 cases hg:wL s.q w.place with
 |some v=>rw[Zis (by rw[hg];rfl)];exact h
 |none=>rw[Zk5 hg];exact(LJ s.q w.at' k o 3).2 (.inl h)
structure Grown(l:List Qd)(most:Int)(w:Wd)(r:Wd×Bool):Prop where
 inv:KY l r.1
 pre:w.all<+:r.1.all
 KZ:∀k o,o∈bP k w.at'->o∈bP k r.1.at'
 less:r.2=false->most< (r.1.all.length:Int)
 upto:(w.all.length:Int)<=most->(r.1.all.length:Int)<=most+1
 yes:r.2=true->(w.all.length:Int)<=most->(r.1.all.length:Int)<=most
theorem Grown.refl{l:List Qd}{most:Int}{w:Wd}(h:KY l w):Grown l most w (w,true):=⟨h,zu,fun _ _ h=>h,(fun h=>by cases h),(fun h=>by show(w.all.length:Int)<=most+1;omega),fun _ h=>h⟩
def ZkJ(most:Int)(q:Qd)(w:Wd):Wd×Bool:=KX (Zit most) Wd.at' q (asks q) w
def nw(most:Int)(w:Wd):Nat->Wd
 |0=>w
 |i+1=>match(nw most w i).all[i]? with
  |some q=>(ZkJ most q (nw most w i)).1
  |none=>nw most w i
abbrev B0(most:Int)(i:Nat)(w:Wd):Prop:=i<w.all.length/\(w.all.length:Int)<=most
def ZkK(most:Int)(w:Wd)(n:Nat)(v:Wd):Prop:=v=nw most w n/\∀j,j<n->B0 most j (nw most w j)
theorem XT(most:Int)(w:Wd):ZkK most w 0 w:=⟨rfl,fun j h=>by omega⟩
structure B1(l out:List Qd):Prop where
 nodup:out.Nodup
 new:∀r∈out,r∉l
 drawn:∀r∈out,∃n a b,a∈l/\b∈l/\(mb n a b).2=true/\r=(mb n a b).1
structure Hh(l out:List Qd):Prop extends B1 l out where
 all:∀a∈l,∀b∈l,∀n,(mb n a b).2=true->(mb n a b).1∈l++out
def B2(base l:List Qd):Prop:=∀q∈l,∃t∈base,q.o=t.o
structure z4Z(l m:List Qd):Prop where
 z52:wQ ZP m
 sub:∀q∈l,q∈m
 der:∀q∈m,Q1 l q
 ob:B2 l m
end Go.Our
set_option maxRecDepth 20000
namespace Go.Our
open Go.Sx
end Go.Our
