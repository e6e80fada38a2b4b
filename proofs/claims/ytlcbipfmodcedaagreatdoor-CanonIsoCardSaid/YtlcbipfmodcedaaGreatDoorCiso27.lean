/- Part 27: RefM, FoundM, RankM, GroupM, ListsR, TreeM, PosM, FormM, PadM, MergeM. Conditions: as each part says. -/
import Derived.Test.YtlcbipfmodcedaaGreatDoorCiso7
set_option linter.unusedVariables false
set_option linter.unusedSimpArgs false
namespace Go.Our
open Go.Sx Go.Lib
structure Pre{K:Type}(c:K->K->Int):Prop where
 anti:∀a b,c a b<0<->0<c b a
 trans:∀a b d,c a b<=0->c b d<=0->c a d<=0
section
variable {K:Type}{c:K->K->Int}
theorem Pre.refl(h:Pre c)(a:K):c a a=0:=by have:=h.anti a a;omega
theorem Pre.flip(h:Pre c){a b:K}(e:c a b=0):c b a=0:=by have:=h.anti a b;have:=h.anti b a;omega
theorem Pre.bG(h:Pre c){a b d:K}(h1:c a b<0)(h2:c b d<=0):c a d<0:=by
 have h3:=h.trans a b d (by omega) h2;rcases vK h3 with h4|h4
 exact h4
 .have h5:=h.flip h4;have h6:=h.trans b d a h2 (by omega);have:=h.anti a b;omega
theorem Pre.rE(h:Pre c){a b d:K}(h1:c a b<=0)(h2:c b d<0):c a d<0:=by
 have h3:=h.trans a b d h1 (by omega);rcases vK h3 with h4|h4
 exact h4
 .have h5:=h.flip h4;have h6:=h.trans d a b (by omega) h1;have:=h.anti b d;omega
def w8(c:K->K->Int)(l:List K)(x:K):Nat:=l.countP fun y=>decide (c y x<0)
theorem S5{l m:List K}(h:l.Perm m)(x:K):w8 c l x=w8 c m x:=h.countP_eq _
theorem dG{p:K->Bool}:∀{o:List K} {r:Nat},r<=o.length->(∀j (h:j<o.length),p o[j]=true<->j<r)->o.countP p=r
 | [],r,hr,_=>by simp at hr;simp[hr]
 |a::o,0,_,h=>by
  rw[List.countP_eq_zero];intro x hx;obtain⟨j,hj,rfl⟩:=yg.1 hx;have:=h j hj;simp only[Nat.not_lt_zero,iff_false]at this;exact this
 |a::o,r+1,hr,h=>by
  have h0:=(h 0 (by simp)).2 (by omega);simp only[List.getElem_cons_zero]at h0;rw[List.countP_cons_of_pos h0];congr 1
  exact dG (by simpa using hr) fun j hj=>by
   have:=h (j+1) (by simpa using hj);simpa using this
def iI[Inhabited K](c:K->K->Int)(o:List K):Nat->Nat
 |0=>0
 |i+1=>if c (o.getD i default) (o.getD (i+1) default)=0 then iI c o i else i+1
theorem S6[Inhabited K](o:List K):∀i,iI c o i<=i
 |0=>zn _
 |i+1=>by unfold iI;split
          exact Nat.le_succ_of_le (S6 o i);exact zn _
theorem S7[Inhabited K](h:Pre c){o:List K}(hs:o.Pairwise fun a b=>c a b<=0):∀i (hi:i<o.length) j (hj:j<o.length),c o[j] o[i]<0<->j<iI c o i
 |0,hi,j,hj=>by
  have:¬c o[j] o[0]<0:=fun h1=>by
   have h2:c o[0] o[j]<=0:=by
    rcases vm j with e|e
    subst e;have:=h.refl o[0];omega;exact(yR.1 hs) 0 j hi hj e
   have:=h.anti o[j] o[0];omega
  simp[iI,this]
 |i+1,hi,j,hj=>by
  have hi':i<o.length:=by omega
  have ih:=S7 h hs i hi' j hj;have hd:o.getD i default=o[i]:=by rw[zi,z1 hi'];rfl
  have hd':o.getD (i+1) default=o[i+1]:=by rw[zi,z1 hi];rfl
  unfold iI;rw[hd,hd'];by_cases e:c o[i] o[i+1]=0
  .rw[z8 e,<-ih];constructor
   intro h1;have:=h.flip e;exact h.bG h1 (by omega);intro h1;exact h.bG h1 (by omega)
  .rw[z6 e];have hle:c o[i] o[i+1]<=0:=(yR.1 hs) i (i+1) hi' hi (by omega);constructor
   .intro h1;refine yu fun hn=>?_
    have h2:c o[i+1] o[j]<=0:=by
     rcases Nat.eq_or_lt_of_le (Nat.le_of_not_lt hn)with e2|e2
     subst e2;have:=h.refl o[i+1];omega;exact(yR.1 hs) (i+1) j hi hj e2
    have:=h.anti o[j] o[i+1];omega
   .intro h1
    have h2:c o[j] o[i]<=0:=by
     rcases Nat.eq_or_lt_of_le (Nat.le_of_lt_succ h1)with e2|e2
     subst e2;have:=h.refl o[j];omega;exact(yR.1 hs) j i hj hi' e2
    exact h.rE h2 (by omega)
theorem A1[Inhabited K](h:Pre c){o:List K}(hs:o.Pairwise fun a b=>c a b<=0){i:Nat}(hi:i<o.length):w8 c o o[i]=iI c o i:=
 dG (zK (S6 o i) (by omega)) fun j hj=>by simpa using S7 h hs i hi j hj
end
def Yh:List Qd->List Qd->Int
 | [],[]=>0
 | [],_::_=> -1
 |_::_,[]=>1
 |a::l,b::m=>if ZJ a b=0 then Yh l m else ZJ a b
theorem qH:jS Yh where
 cN:=by
  intro a
  induction a with
  |nil=>intro b;cases b<;>simp[Yh]
  |cons x a ih=>
   intro b;cases b with
   |nil=>simp[Yh]
   |cons y b=>
    unfold Yh;split
    exact ih b;exact qO.cN x y
 anti:=by
  intro a
  induction a with
  |nil=>intro b;cases b<;>simp[Yh]
  |cons x a ih=>
   intro b;cases b with
   |nil=>simp[Yh]
   |cons y b=>
    unfold Yh;have:=qO.anti x y;by_cases e:ZJ x y=0
    rw[z8 e,z8 (by omega),ih b];rw[z6 e,z6 (by omega),this]
 zero:=by
  intro a
  induction a with
  |nil=>intro b;cases b<;>simp[Yh]
  |cons x a ih=>
   intro b;cases b with
   |nil=>simp[Yh]
   |cons y b=>
    unfold Yh;by_cases e:ZJ x y=0
    .rw[z8 e,ih b,x5];have:=(qO.zero x y).1 e;simp[this]
    .rw[z6 e,x5];constructor
     exact fun h=>(e h).elim;exact fun h=>(e ((qO.zero x y).2 h.1)).elim
 trans:=by
  intro a
  induction a with
  |nil=>intro b d _ h2;cases b<;>cases d<;>simp_all[Yh]
  |cons x a ih=>
   intro b d h1 h2;cases b with
   |nil=>simp[Yh]at h1
   |cons y b=>
    cases d with
    |nil=>simp[Yh]at h2
    |cons z d=>
     unfold Yh at h1 h2⊢;by_cases e1:ZJ x y=0
     .rw[z8 e1]at h1;have:=(qO.zero x y).1 e1;subst this;by_cases e2:ZJ x z=0
      .rw[z8 e2]at h2⊢;exact ih b d h1 h2
      .rw[z6 e2]at h2⊢;exact h2
     .rw[z6 e1]at h1;by_cases e2:ZJ y z=0
      .have:=(qO.zero y z).1 e2;subst this;rw[z6 e1];exact h1
      .rw[z6 e2]at h2;have h3:ZJ x z<0:=qO.lt_trans (by omega) h2;rw[z6 (by omega)];omega
def iJ(n:Nat):LB:=List.replicate (4-(decDigits n).length) 48++decDigits n
def Xn(A:List LB)(cl:List Int)(x:Nat)(t:Tm):Tm:=if t.k=2 then{t with t:=if A.idxOf t.t=x then [120]else iJ (cl.getD (A.idxOf t.t) 0).toNat}else t
def lM(A:List LB)(cl:List Int)(x:Nat)(q:Qd):Qd:=⟨Xn A cl x q.s,Xn A cl x q.p,Xn A cl x q.o,Xn A cl x q.g⟩
def nQ(A:List LB)(l:List Qd)(x:Nat):List Nat:=(List.range l.length).filter fun k=>decide (A.getD x []∈ZB (l.getD k ⟨ZF,ZF,ZF,ZF⟩))
def UC(A:List LB)(l:List Qd)(cl:List Int)(x:Nat):List Qd:=(nQ A l x).map fun k=>lM A cl x (l.getD k ⟨ZF,ZF,ZF,ZF⟩)
def YQ(A:List LB)(l:List Qd)(cl:List Int)(x:Nat):List Qd:=(UC A l cl x).mergeSort (wW ZJ)
def Vw(A:List LB)(l:List Qd)(cl:List Int)(a b:Nat):Int:=if wP (cl.getD a 0) (cl.getD b 0)=0 then Yh (YQ A l cl a) (YQ A l cl b)else wP (cl.getD a 0) (cl.getD b 0)
theorem Zeq(A:List LB)(l:List Qd)(cl:List Int)(a b:Nat):Vw A l cl b a= -Vw A l cl a b:=by
 unfold Vw;have h:=eV.anti (cl.getD a 0) (cl.getD b 0);by_cases e:wP (cl.getD a 0) (cl.getD b 0)=0
 rw[z8 e,z8 (by omega),qH.anti (YQ A l cl a)];rw[z6 e,z6 (by omega),h]
theorem W6(A:List LB)(l:List Qd)(cl:List Int):Pre (Vw A l cl) where
 anti a b:=by have:=Zeq A l cl a b;omega
 trans a b d h1 h2:=by
  unfold Vw at*;by_cases e1:wP (cl.getD a 0) (cl.getD b 0)=0
  .rw[z8 e1]at h1;have ee:=(eV.zero _ _).1 e1;by_cases e2:wP (cl.getD b 0) (cl.getD d 0)=0
   .rw[z8 e2]at h2;rw[ee,z8 e2];exact qH.trans _ _ _ h1 h2
   .rw[z6 e2]at h2;rw[ee,z6 e2];exact h2
  .rw[z6 e1]at h1;by_cases e2:wP (cl.getD b 0) (cl.getD d 0)=0
   .have ee:=(eV.zero _ _).1 e2;rw[<-ee,z6 e1];exact h1
   .rw[z6 e2]at h2;have h3:=eV.lt_trans (x:=cl.getD a 0) (y:=cl.getD b 0) (z:=cl.getD d 0) (by omega) h2;rw[z6 (by omega)];omega
def YL(A:List LB)(l:List Qd)(cl:List Int):List Int:=(List.range cl.length).map fun x=>(w8 (Vw A l cl) (List.range cl.length) x:Int)
theorem YM(A:List LB)(l:List Qd)(cl:List Int):(YL A l cl).length=cl.length:=by simp[YL]
theorem ZiG{K:Type}{c:K->K->Int}(h:Pre c){l:List K}{x:K}(hx:x∈l):w8 c l x<l.length:=by
 unfold w8;refine Nat.lt_of_le_of_ne List.countP_le_length fun e=>?_;have:=(List.countP_eq_length.1 e) x hx;have h2:=h.refl x;simp at this;omega
theorem S8(A:List LB)(l:List Qd)(cl:List Int):∀c∈YL A l cl,0<=c/\c< (cl.length:Int):=by
 intro c hc;unfold YL at hc;obtain⟨x,hx,rfl⟩:=zM.1 hc;have:=ZiG (W6 A l cl) hx;rw[yw]at this;omega
def kE(cl:List Int):Nat:=(ZC cl).length
inductive Refs(A:List LB)(l:List Qd):List Int->List Int->Prop
 |stop {cl:List Int} (h:kE (YL A l cl)=kE cl):Refs A l cl (YL A l cl)
 |go {cl F:List Int} (h:kE (YL A l cl)≠kE cl) (k:Refs A l (YL A l cl) F):Refs A l cl F
theorem Refs.HU{A:List LB}{l:List Qd}{cl F F':List Int}(h:Refs A l cl F)(h':Refs A l cl F'):F'=F:=by
 induction h with
 |stop hn=>cases h' with
  |stop _=>rfl
  |go hy _=>exact(hy hn).elim
 |go hy _ ih=>cases h' with
  |stop hn=>exact(hy hn).elim
  |go _ k=>exact ih k
theorem Refs.ok{A:List LB}{l:List Qd}{cl F:List Int}(h:Refs A l cl F):F.length=cl.length/\∀c∈F,0<=c/\c< (cl.length:Int):=by
 induction h with
 |stop hn=>exact⟨YM _ _ _,S8 _ _ _⟩
 |go hy _ ih=>rw[YM]at ih;exact ih
end Go.Our
namespace Go.Our
open Go Go.Sx
def A2:Qd:=⟨ZF,ZF,ZF,ZF⟩
def nR(A:List LB)(l:List Qd)(k x:Nat):List Nat:=(List.range k).filter fun j=>decide (A.getD x []∈ZB (l.getD j A2))
theorem S9(A:List LB)(l:List Qd)(x:Nat):nR A l l.length x=nQ A l x:=rfl
theorem Zkt{A:List LB}{l:List Qd}{k x j:Nat}(h:j∈nR A l k x):j<k:=zY.1 (yY.1 h).1
theorem A3(A:List LB)(l:List Qd)(k x:Nat):(nR A l k x).length<=k:=by
 have:=yK (fun j=>decide (A.getD x []∈ZB (l.getD j A2))) (List.range k);rw[yw]at this;exact this
def JR(A:List LB)(l:List Qd)(k:Nat)(T:List LB):List (List Nat):=(List.range A.length).map fun n=>nR A l k n++if A.getD n []∈T then [k]else []
theorem Vx(A:List LB)(l:List Qd)(k:Nat)(T:List LB):(JR A l k T).length=A.length:=by simp[JR]
theorem A4{A:List LB}{l:List Qd}{k n:Nat}{T:List LB}(h:n<A.length):(JR A l k T)[n]'(by rw[Vx];exact h)=nR A l k n++if A[n]∈T then [k]else []:=by
 simp[JR,h]
theorem Zgv{A:List LB}{l:List Qd}{k:Nat}{T:List LB}:∀x∈JR A l k T,x.length<=k+1:=by
 intro x hx;unfold JR at hx;obtain⟨n,_,rfl⟩:=zM.1 hx;have:=A3 A l k n;rw[ze];split<;>simp<;>omega
theorem Zes(A:List LB)(l:List Qd)(k:Nat):JR A l k []=(List.range A.length).map (nR A l k):=by simp[JR]
theorem ZbG(A:List LB)(l:List Qd):(List.range A.length).map (nR A l 0)=List.replicate A.length []:=by
 rw[vB];refine⟨by simp,fun x hx=>?_⟩;obtain⟨n,_,rfl⟩:=zM.1 hx
 rfl
theorem Zet{A:List LB}{l:List Qd}{k:Nat}{T:List LB}{s:LB}(h:s∈T):JR A l k (T++ [s])=JR A l k T:=by
 unfold JR;refine zZ fun n _=>?_;congr 1
 have:A.getD n []∈T++ [s]<->A.getD n []∈T:=by
  rw[zX,zJ];exact⟨fun h1=>h1.elim id (fun e=>e▸h), .inl⟩
 by_cases h2:A.getD n []∈T
 rw[z8 h2,z8 (this.2 h2)];rw[z6 h2,z6 (fun h3=>h2 (this.1 h3))]
theorem Sb{A:List LB}(hA:A.Nodup){l:List Qd}{k n:Nat}{T:List LB}(hn:n<A.length)(h:A[n]∉T):JR A l k (T++ [A[n]])=(JR A l k T).modify n (· ++ [k]):=by
 apply yy (by rw[vJ,Vx,Vx]);intro i h1 h2;rw[Vx]at h1;rw[vi,A4 h1,A4 h1];by_cases e:n=i
 .subst e;rw[z8 rfl,z6 h,z8 (by simp),zU]
 .rw[z6 e];congr 1;have hne:A[i]≠A[n]:=fun h3=>e ((yZ hA).1 h3.symm)
  have:A[i]∈T++ [A[n]]<->A[i]∈T:=by
   rw[zX,zJ];exact⟨fun h1=>h1.elim id (fun e=>(hne e).elim), .inl⟩
  by_cases h2:A[i]∈T
  rw[z8 h2,z8 (this.2 h2)];rw[z6 h2,z6 (fun h3=>h2 (this.1 h3))]
theorem Zeu{A:List LB}{l:List Qd}{k:Nat}{T:List LB}(hk:k<l.length)(h:∀s∈A,s∈T<->s∈ZB l[k]):JR A l k T=(List.range A.length).map (nR A l (k+1)):=by
 unfold JR;refine zZ fun n hn=>?_;have hn:n<A.length:=zY.1 hn;have hg:A.getD n []=A[n]:=by rw[zi,z1 hn];rfl
 have hl:l.getD k A2=l[k]:=by rw[zi,z1 hk];rfl
 unfold nR;rw[List.range_succ,List.filter_append,List.filter_cons,List.filter_nil,hl,hg];congr 1;have:=h A[n] (zq hn);by_cases h2:A[n]∈T
 rw[z8 h2,z8 (by simpa using this.1 h2)];rw[z6 h2,z6 (by simpa using fun h3=>h2 (this.2 h3))]
theorem ZbH{A:List LB}{l:List Qd}{k n:Nat}{T:List LB}(hn:n<A.length):(∃c,(JR A l k T)[n]'(by rw[Vx];exact hn)=c++ [k])<->A[n]∈T:=by
 rw[A4 hn];constructor
 .rintro⟨c,hc⟩;refine yu fun h=>?_;rw[z6 h,zU]at hc;have:k∈nR A l k n:=by rw[hc];simp
  have:=Zkt this;omega
 intro h;rw[z8 h];exact⟨_,rfl⟩
end Go.Our
namespace Go.Our
section
variable {c:Nat->Nat->Int}{o:List Nat}{n:Nat}
def jd(c:Nat->Nat->Int)(o:List Nat)(n i:Nat):List Int:=(List.range n).map fun x=>if x∈o.take i then(w8 c o x:Int)else 0
theorem W8(i:Nat):(jd c o n i).length=n:=by simp[jd]
theorem ZeB:jd c o n 0=List.replicate n 0:=by
 unfold jd;rw[vB];simp
theorem Zgy(h:o.Perm (List.range n)):jd c o n o.length=(List.range n).map fun x=>(w8 c (List.range n) x:Int):=by
 unfold jd;refine zZ fun x hx=>?_;rw[yb,z8 (h.mem_iff.2 hx),S5 h]
theorem SD(hn:o.Nodup){i:Nat}(hi:i<o.length)(hx:o[i]<n){v:Int}(hv:v=(w8 c o o[i]:Int)):(jd c o n i).set o[i] v=jd c o n (i+1):=by
 subst hv;apply yy (by rw[vG,W8,W8]);intro j h1 h2;rw[W8]at h2;rw[List.getElem_set];have e1:∀y (h:j< (jd c o n y).length),(jd c o n y)[j]=if j∈o.take y then(w8 c o j:Int)else 0:=fun y h=>by simp[jd]
 rw[e1,e1,zB hi];by_cases e:o[i]=j
 rw[z8 e,z8 (by rw[<-e];exact xO _ (vk _)),e]
 .rw[z6 e]
  have:j∈o.take i++ [o[i]]<->j∈o.take i:=by
   rw[zX,zJ];exact⟨fun h=>h.elim id (fun h=>(e h.symm).elim), .inl⟩
  by_cases h3:j∈o.take i
  rw[z8 h3,z8 (this.2 h3)];rw[z6 h3,z6 (fun h4=>h3 (this.1 h4))]
theorem Zgz{i j:Nat}(hj:j<i)(hl:j<o.length)(hx:o[j]<n):(jd c o n i)[o[j]]?=some (w8 c o o[j]:Int):=by
 have hm:o[j]∈o.take i:=by
  rw[yg];exact⟨j,by rw[zA];omega,by rw[vv]⟩
 unfold jd;rw[z7,yz hx,Option.map_some,z8 hm]
theorem ZbM(h:Pre c)(hs:o.Pairwise fun a b=>c a b<=0)(hi:0<o.length):w8 c o o[0]=0:=by
 rw[A1 h hs hi];rfl
theorem ZeC(h:Pre c)(hs:o.Pairwise fun a b=>c a b<=0){j:Nat}(hi:j+1<o.length):w8 c o o[j+1]=if c o[j] o[j+1]=0 then w8 c o o[j]else j+1:=by
 rw[A1 h hs hi,A1 h hs (show j<o.length by omega)];have h1:o.getD j default=o[j]:=by rw[zi,z1 (by omega)];rfl
 have h2:o.getD (j+1) default=o[j+1]:=by rw[zi,z1 hi];rfl
 show(if c (o.getD j default) (o.getD (j+1) default)=0 then _ else _)=_
 rw[h1,h2]
end
end Go.Our
namespace Go.Our
open Go.Sx Go.Lib
theorem Ah{K J:Type}[DecidableEq K](a:K)(v:J):∀l:List (K×J),(qv a v l).map Prod.fst=if a∈l.map Prod.fst then l.map Prod.fst else l.map Prod.fst++ [a]
 | []=>by simp[qv]
 |(k,u)::r=>by
  unfold qv;by_cases e:a=k
  subst e;simp
  .rw[z6 e,zL,Ah a v r,zL];by_cases h:a∈r.map Prod.fst
   rw[z8 h,z8 (zG _ h)];rw[z6 h,z6 (fun h2=>(zI.1 h2).elim e h)];rfl
theorem ZbR{K J:Type}[DecidableEq K]{a:K}{v:J}{l:List (K×J)}(h:(l.map Prod.fst).Nodup):((qv a v l).map Prod.fst).Nodup:=by
 rw[Ah];split
 exact h
 .rename_i hm;rw[xU];refine⟨h,by simp,fun x hx y hy e=>?_⟩;rw[zJ]at hy;subst hy e;exact hm hx
def wu(cl:List Int)(c:Int):List Nat:=(List.range cl.length).filter fun x=>decide (cl.getD x 0=c)
def YY(cl:List Int):Option Nat:=(List.range cl.length).find? fun c=>decide (1< (wu cl (c:Int)).length)
def YI(cl:List Int)(c:Int)(x:Nat):List Int:=(List.range cl.length).map fun y=>if y≠x/\cl.getD y 0=c then c+1 else cl.getD y 0
theorem Ev(cl:List Int)(c:Int)(x:Nat):(YI cl c x).length=cl.length:=by simp[YI]
open Classical in
noncomputable def wV (A:List LB)(l:List Qd)(cl:List Int):List Int:=if h:∃F,Refs A l cl F then h.choose else []
theorem GV{A:List LB}{l:List Qd}{cl F:List Int}(h:Refs A l cl F):wV A l cl=F:=by
 have hx:∃F,Refs A l cl F:=⟨F,h⟩;unfold wV;rw[yx hx];exact h.HU hx.choose_spec
noncomputable def JS (A:List LB)(l:List Qd)(B:Nat):Nat->List Int->Nat×List (List Int)->Nat×List (List Int)
 |0,_,s=>s
 |k+1,cl,s=>if B<s.1+1 then(s.1+1,s.2)else match YY cl with
  |none=>(s.1+1,s.2++ [cl])
  |some c=>(wu cl (c:Int)).foldl (fun s x=>if B<s.1 then s else JS A l B k (wV A l (YI cl (c:Int) x)) s) (s.1+1,s.2)
noncomputable def Wg (A:List LB)(l:List Qd)(B k:Nat)(cl:List Int)(c:Int)(xs:List Nat)(s:Nat×List (List Int)):Nat×List (List Int):=
 xs.foldl (fun s x=>if B<s.1 then s else JS A l B k (wV A l (YI cl c x)) s) s
section
variable {A:List LB}{l:List Qd}{B:Nat}
theorem Ew{k:Nat}{cl:List Int}{s:Nat×List (List Int)}(h:B<s.1+1):JS A l B (k+1) cl s=(s.1+1,s.2):=by
 unfold JS;rw[z8 h]
theorem UD{k:Nat}{cl:List Int}{s:Nat×List (List Int)}(h:¬B<s.1+1)(hs:YY cl=none):JS A l B (k+1) cl s=(s.1+1,s.2++ [cl]):=by
 unfold JS;rw[z6 h,hs]
theorem Ey{k c:Nat}{cl:List Int}{s:Nat×List (List Int)}(h:¬B<s.1+1)(hs:YY cl=some c):JS A l B (k+1) cl s=Wg A l B k cl (c:Int) (wu cl (c:Int)) (s.1+1,s.2):=by
 unfold JS;rw[z6 h,hs];rfl
theorem JP{k:Nat}{cl:List Int}{c:Int}:∀{xs:List Nat} {s:Nat×List (List Int)},B<s.1->Wg A l B k cl c xs s=s
 | [],s,_=>rfl
 |x::xs,s,h=>by
  unfold Wg;rw[List.foldl_cons,z8 h];exact JP (xs:=xs) h
theorem Ez{k:Nat}{cl:List Int}{c:Int}{x:Nat}{xs:List Nat}{s:Nat×List (List Int)}(h:¬B<s.1):Wg A l B k cl c (x::xs) s=Wg A l B k cl c xs (JS A l B k (wV A l (YI cl c x)) s):=by
 unfold Wg;rw[List.foldl_cons,z6 h]
theorem ZeL{k:Nat}{cl:List Int}{c:Int}{xs:List Nat}{i:Nat}{s:Nat×List (List Int)}(hi:i<xs.length)(h:¬B<s.1):Wg A l B k cl c (xs.drop i) s=Wg A l B k cl c (xs.drop (i+1)) (JS A l B k (wV A l (YI cl c xs[i])) s):=by
 rw[zQ hi,Ez h]
theorem Ak:∀(k:Nat) (cl:List Int) (s:Nat×List (List Int)),s.1<=(JS A l B k cl s).1
 |0,_,_=>zn _
 |k+1,cl,s=>by
  have go:∀(c:Int) (xs:List Nat) (s:Nat×List (List Int)),s.1<=(Wg A l B k cl c xs s).1:=fun c xs=>by
   induction xs with
   |nil=>exact fun s=>zn _
   |cons x xs ih=>
    intro s;by_cases h:B<s.1
    rw[JP h];exact zn _
    .rw[Ez h];exact zK (Ak k _ s) (ih _)
  by_cases h:B<s.1+1
  rw[Ew h];show s.1<=s.1+1;omega
  .cases hs:YY cl with
   |none=>rw[UD h hs];show s.1<=s.1+1;omega
   |some c=>
    rw[Ey h hs];have:=go (c:Int) (wu cl (c:Int)) (s.1+1,s.2);dsimp only at this;omega
end
def Xv(fm:List Int->List Qd):Option (List Qd×List Int)->List Int->Option (List Qd×List Int)
 |none,cl=>some (fm cl,cl)
 |some p,cl=>if Yh (fm cl) p.1<0 then some (fm cl,cl)else some p
def Js(fm:List Int->List Qd)(Ls:List (List Int)):Option (List Qd×List Int):=Ls.foldl (Xv fm) none
theorem SZ(fm:List Int->List Qd)(Ls:List (List Int))(cl:List Int):Js fm (Ls++ [cl])=Xv fm (Js fm Ls) cl:=by
 unfold Js;rw[vt];rfl
theorem T0(fm:List Int->List Qd):Js fm []=none:=rfl
theorem EA(fm:List Int->List Qd){Ls:List (List Int)}(h:Ls≠ []):∃cl∈Ls,Js fm Ls=some (fm cl,cl):=by
 have go:∀(Ls:List (List Int)) (o:Option (List Qd×List Int)),Ls≠ []->(∃cl∈Ls,Ls.foldl (Xv fm) o=some (fm cl,cl))\/(o≠none/\Ls.foldl (Xv fm) o=o):=by
  intro Ls
  induction Ls with
  |nil=>exact fun o h=>(h rfl).elim
  |cons x Ls ih=>
   intro o _;rw[List.foldl_cons]
   have step:Xv fm o x=some (fm x,x)\/(o≠none/\Xv fm o x=o):=by
    cases o with
    |none=>exact .inl rfl
    |some p=>
     have e:Xv fm (some p) x=if Yh (fm x) p.1<0 then some (fm x,x)else some p:=rfl
     rw[e];by_cases h:Yh (fm x) p.1<0
     rw[z8 h];exact .inl rfl;rw[z6 h];exact .inr ⟨by simp,rfl⟩
   by_cases hL:Ls=[]
   .subst hL;rcases step with h|h
    exact .inl ⟨x,vk _,h⟩;exact .inr h
   .rcases ih (Xv fm o x) hL with⟨cl,h1,h2⟩|⟨h1,h2⟩
    exact .inl ⟨cl,zG _ h1,h2⟩
    .rcases step with h|⟨h3,h4⟩
     exact .inl ⟨x,zF ..,by rw[h2,h]⟩;exact .inr ⟨h3,by rw[h2,h4]⟩
 rcases go Ls none h with h1|⟨h1,_⟩
 exact h1;exact(h1 rfl).elim
def bH(m:List (Int×List Nat))(p:Int×Nat):List (Int×List Nat):=qv p.1 ((qi p.1 m).getD []++ [p.2]) m
def QA(cl:List Int)(i:Nat):List (Int×Nat):=(List.range i).map fun x=>(cl.getD x 0,x)
def qR(cl:List Int)(i:Nat):List (Int×List Nat):=(QA cl i).foldl bH []
theorem ZgD(m:List (Int×List Nat))(p:Int×Nat)(c:Int):(qi c (bH m p)).getD []=(qi c m).getD []++if p.1=c then [p.2]else []:=by
 unfold bH;rw[H8];by_cases e:c=p.1
 subst e;simp;rw[z6 e,z6 (yO e),zU]
theorem T1(c:Int):∀(ps:List (Int×Nat)) (m:List (Int×List Nat)),(qi c (ps.foldl bH m)).getD []=(qi c m).getD []++(ps.filter fun p=>decide (p.1=c)).map Prod.snd
 | [],m=>by simp
 |p::ps,m=>by
  rw[List.foldl_cons,T1 c ps,ZgD,List.filter_cons];by_cases e:p.1=c
  simp[e];simp[e]
theorem T2(cl:List Int)(i:Nat)(c:Int):(qi c (qR cl i)).getD []=(List.range i).filter fun x=>decide (cl.getD x 0=c):=by
 unfold qR;rw[T1];unfold QA;rw[vo,yq];show []++_=_
 rw[List.nil_append];conv=>rhs;rw[<-List.map_id (List.filter _ _)]
 rfl
theorem ZiX(cl:List Int)(c:Int):(qi c (qR cl cl.length)).getD []=wu cl c:=T2 cl cl.length c
theorem ZkB(cl:List Int)(i:Nat)(c:Int):((qi c (qR cl i)).getD []).length<=i:=by
 rw[T2];exact zK (yK ..) (by simp)
theorem ZeN(cl:List Int)(i:Nat):((qR cl i).map Prod.fst).Nodup:=by
 have go:∀(ps:List (Int×Nat)) (m:List (Int×List Nat)),(m.map Prod.fst).Nodup->((ps.foldl bH m).map Prod.fst).Nodup:=by
  intro ps
  induction ps with
  |nil=>exact fun m h=>h
  |cons p ps ih=>exact fun m h=>ih _ (ZbR h)
 exact go _ [] (by simp)
theorem ZgE(cl:List Int)(i:Nat):qR cl (i+1)=qv (cl.getD i 0) ((qi (cl.getD i 0) (qR cl i)).getD []++ [i]) (qR cl i):=by
 unfold qR QA;rw[List.range_succ,yo,vt];rfl
theorem ZiY(cl:List Int)(i:Nat):(qR cl i).length<=i:=by
 have go:∀(ps:List (Int×Nat)) (m:List (Int×List Nat)),(ps.foldl bH m).length<=m.length+ps.length:=by
  intro ps
  induction ps with
  |nil=>exact fun m=>zn _
  |cons p ps ih=>
   intro m;refine zK (ih _) ?_
   have:(bH m p).length<=m.length+1:=by
    unfold bH;rw[<-zj (f:=Prod.fst),Ah];split<;>simp
   rw[List.length_cons];omega
 have h:=go (QA cl i) [];have e:(QA cl i).length=i:=by simp[QA]
 rw[e,List.length_nil,zw]at h;exact h
theorem T3(cl:List Int)(c:Int):(wu cl c).length<=cl.length:=by
 unfold wu;exact zK (yK ..) (by simp)
theorem T4{K:Type}{p:K->Bool}:∀{l:List K} {i:Nat} (h:i<l.length),p l[i]=true->(∀j (hj:j<i),p (l[j]'(by omega))=false)->l.find? p=some l[i]
 |x::l,0,h,h1,_=>by rw[List.find?_cons];simp only[List.getElem_cons_zero]at h1;rw[h1];rfl
 |x::l,i+1,h,h1,h2=>by
  have h0:=h2 0 (by omega);simp only[List.getElem_cons_zero]at h0;rw[List.find?_cons,h0];simp only[List.getElem_cons_succ]at h1⊢;exact T4 (by simpa using h) h1 fun j hj=>by have:=h2 (j+1) (by omega);simpa using this
theorem ZbS{p:Nat->Bool}{n c:Nat}(hc:c<n)(h:p c=true)(hb:∀d,d<c->p d=false):(List.range n).find? p=some c:=by
 have hl:c< (List.range n).length:=by simpa using hc
 have:=T4 (p:=p) hl (by simpa using h) (fun j hj=>by simpa using hb j hj);simpa using this
theorem gI{cl:List Int}{c:Int}{x:Nat}:x∈wu cl c<->x<cl.length/\cl.getD x 0=c:=by
 unfold wu;rw[yY,zY,yt]
def gm(cl:List Int)(x:Nat)(T:List Nat):List Int:=(List.range cl.length).map fun z=>if z≠x/\z∈T then cl.getD z 0+1 else cl.getD z 0
theorem QB(cl:List Int)(x:Nat)(T:List Nat):(gm cl x T).length=cl.length:=by simp[gm]
theorem QC{cl:List Int}{x:Nat}{T:List Nat}{z:Nat}(h:z< (gm cl x T).length):(gm cl x T)[z]=if z≠x/\z∈T then cl.getD z 0+1 else cl.getD z 0:=by
 simp only[gm,y9,yS]
theorem ZgF(cl:List Int)(x:Nat):gm cl x []=cl:=by
 apply yy (QB _ _ _);intro z h1 h2;rw[QC,z6 (by simp),zi,z1 h2];rfl
theorem ZgG(cl:List Int)(x:Nat)(T:List Nat):gm cl x (T++ [x])=gm cl x T:=by
 apply yy (by rw[QB,QB]);intro z h1 h2;rw[QC,QC];by_cases e:z=x
 rw[z6 (fun h=>h.1 e),z6 (fun h=>h.1 e)];simp[e]
theorem ZiZ{cl:List Int}{x t:Nat}{T:List Nat}(hx:t≠x)(ht:t<cl.length):(gm cl x T).set t (cl.getD t 0+1)=gm cl x (T++ [t]):=by
 apply yy (by rw[vG,QB,QB]);intro z h1 h2;rw[List.getElem_set,QC,QC];by_cases e:t=z
 .subst e;rw[z8 rfl,z8 ⟨hx,by simp⟩]
 .rw[z6 e];have:z∈T++ [t]<->z∈T:=by simp[yO e]
  simp only[this]
theorem Zj0{cl:List Int}{x t:Nat}{T:List Nat}(hT:t∉T)(ht:t<cl.length):(gm cl x T)[t]?=some (cl.getD t 0):=by
 rw[z1 (by rw[QB];exact ht),QC,z6 (fun h=>hT h.2)]
theorem Zj1(cl:List Int)(c:Int)(x:Nat):gm cl x (wu cl c)=YI cl c x:=by
 unfold gm YI;refine zZ fun z hz=>?_;have hzl:=zY.1 hz;by_cases h:z≠x/\cl.getD z 0=c
 rw[z8 ⟨h.1,gI.2 ⟨hzl,h.2⟩⟩,z8 h,h.2];rw[z6 (fun h2=>h ⟨h2.1,(gI.1 h2.2).2⟩),z6 h]
theorem ZbT(cl:List Int)(c:Int):(wu cl c).Nodup:=vg.filter _
theorem ZgH{cl:List Int}{c:Nat}(h:YY cl=some c):c<cl.length:=by
 unfold YY at h;exact zY.1 (List.mem_of_find?_eq_some h)
theorem ZgI{cl:List Int}{c:Nat}(hc:c<cl.length)(h:1< (wu cl (c:Int)).length)(hb:∀d,d<c->¬1< (wu cl (d:Int)).length):YY cl=some c:=by
 unfold YY;have:=ZbS (n:=cl.length) (p:=fun c:Nat=>decide (1< (wu cl (c:Int)).length)) hc (by simpa using h) (fun d hd=>by simpa using hb d hd);exact this
theorem ZgJ{cl:List Int}(hb:∀d,d<cl.length->¬1< (wu cl (d:Int)).length):YY cl=none:=by
 unfold YY;rw[List.find?_eq_none];intro d hd;simpa using hb d (zY.1 hd)
theorem T5{A:List LB}{l:List Qd}{B:Nat}:∀(k:Nat) (cl:List Int) (s:Nat×List (List Int)),B<s.1+k->(JS A l B k cl s).1<=B->s.2.length< (JS A l B k cl s).2.length
 |0,cl,s,h1,h2=>by have h3:s.1<=B:=h2;omega
 |k+1,cl,s,h1,h2=>by
  have go:∀(c:Int) (xs:List Nat) (s:Nat×List (List Int)),B<s.1+k->(Wg A l B k cl c xs s).1<=B->s.2.length<=(Wg A l B k cl c xs s).2.length/\(xs≠ []->s.2.length< (Wg A l B k cl c xs s).2.length):=fun c xs=>by
   induction xs with
   |nil=>exact fun s _ _=>⟨zn _,fun h=>(h rfl).elim⟩
   |cons x xs ih=>
    intro s h3 h4;by_cases h:B<s.1
    rw[JP h]at h4;omega
    .rw[Ez h]at h4⊢;have hg:=Ak (A:=A) (l:=l) (B:=B) k (wV A l (YI cl c x)) s;by_cases h5:B< (JS A l B k (wV A l (YI cl c x)) s).1
     rw[JP h5]at h4;omega
     .have h6:=T5 k (wV A l (YI cl c x)) s h3 (Nat.le_of_not_lt h5);have h7:=ih (JS A l B k (wV A l (YI cl c x)) s) (by omega) h4;exact⟨by omega,fun _=>by omega⟩
  by_cases h:B<s.1+1
  rw[Ew h]at h2;dsimp only at h2;omega
  .cases hs:YY cl with
   |none=>rw[UD h hs];simp
   |some c=>
    rw[Ey h hs]at h2⊢;have h8:=go (c:Int) (wu cl (c:Int)) (s.1+1,s.2) (by dsimp only;omega) h2;refine h8.2 fun e=>?_;unfold YY at hs;have:=List.find?_some hs;simp[e]at this
noncomputable def ZU (A:List LB)(l:List Qd)(B:Nat):Nat×List (List Int):=JS A l B (B+1) (wV A l (List.replicate A.length 0)) (0,[])
theorem T6{A:List LB}{l:List Qd}{B:Nat}(h:(ZU A l B).1<=B):(ZU A l B).2≠ []:=fun e=>by
 have:=T5 (A:=A) (l:=l) (B:=B) (B+1) (wV A l (List.replicate A.length 0)) (0,[]) (by dsimp only;omega) h;unfold ZU at e;rw[e]at this;simp at this
def bJ(c:Int):LB:=99::decDigits c.toNat
def uU(A:List LB)(cl:List Int)(t:Tm):Tm:=if t.k=2 then{t with t:=bJ (cl.getD (A.idxOf t.t) 0)}else t
def JT(A:List LB)(cl:List Int)(q:Qd):Qd:=⟨uU A cl q.s,uU A cl q.p,uU A cl q.o,uU A cl q.g⟩
def ZH(A:List LB)(l:List Qd)(cl:List Int):List Qd:=(l.map (JT A cl)).mergeSort (wW ZJ)
theorem U6(A:List LB)(l:List Qd)(cl:List Int):(ZH A l cl).length=l.length:=by simp[ZH,yE]
def kG(A:List LB)(cl:List Int):List Pr:=(List.range A.length).map fun x=>(A.getD x [],bJ (cl.getD x 0))
theorem qt(A:List LB)(cl:List Int):(kG A cl).length=A.length:=by simp[kG]
theorem iQ{A:List LB}{cl:List Int}{x:Nat}(h:x<A.length)(h':x< (kG A cl).length):(kG A cl)[x]=(A[x],bJ (cl.getD x 0)):=by
 simp only[kG,y9,yS];rw[zi,z1 h,Option.getD_some]
theorem Ta{K:Type}{p:K->Bool}:∀{l:List K} {i:Nat} (h:i<l.length),p l[i]=true->(∀j (hj:j<i),p (l[j]'(by omega))=false)->l.find? p=some l[i]
 |x::l,0,h,h1,_=>by rw[List.find?_cons];simp only[List.getElem_cons_zero]at h1;rw[h1];rfl
 |x::l,i+1,h,h1,h2=>by
  have h0:=h2 0 (by omega);simp only[List.getElem_cons_zero]at h0;rw[List.find?_cons,h0];simp only[List.getElem_cons_succ]at h1⊢;exact Ta (by simpa using h) h1 fun j hj=>by have:=h2 (j+1) (by omega);simpa using this
theorem ZkC{A:List LB}{cl:List Int}(hn:A.Nodup){s:LB}(hs:s∈A):uW (kG A cl) s=some (bJ (cl.getD (A.idxOf s) 0)):=by
 have hi:=zy hs;have hA:A[A.idxOf s]=s:=zV hi;have hp:A.idxOf s< (kG A cl).length:=by rw[qt];exact hi
 unfold uW
 rw[Ta (p:=fun p:Pr=>decide (p.1=s)) hp (by rw[iQ hi];simp[hA]) (fun j hj=>by
  rw[iQ (by omega),yL];intro e;have:=(yZ hn).1 (e.trans hA.symm)
  omega)]
 rw[Option.map_some,iQ hi]
theorem EB{A:List LB}{cl:List Int}(hn:A.Nodup){t:Tm}(ht:t.k=2->t.t∈A):ZT (kG A cl) t=uU A cl t:=by
 unfold ZT uU;by_cases h:t.k=2
 rw[z8 h,z8 h,ZkC hn (ht h)];rw[z6 h,z6 h]
theorem UB{q:Qd}{A:List LB}(h:∀s∈ZB q,s∈A):(q.s.k=2->q.s.t∈A)/\(q.p.k=2->q.p.t∈A)/\(q.o.k=2->q.o.t∈A)/\(q.g.k=2->q.g.t∈A):=by
 refine⟨fun e=>h _ ?_,fun e=>h _ ?_,fun e=>h _ ?_,fun e=>h _ ?_⟩<;>simp[ZB,ZV,e]
theorem ZbX{A:List LB}{cl:List Int}(hn:A.Nodup){q:Qd}(h:∀s∈ZB q,s∈A):XO (kG A cl) q=JT A cl q:=by
 obtain⟨h1,h2,h3,h4⟩:=UB h;unfold XO JT;rw[EB hn h1,EB hn h2,EB hn h3,EB hn h4]
structure qz(A:List LB)(cl:List Int):Prop where
 cn:cl.length=A.length
 cs:∀c∈cl,0<=c/\c< (cl.length:Int)
 one:YY cl=none
theorem Zj4{K:Type}{l:List K}{x y:K}(hn:l.Nodup)(hx:x∈l)(hy:y∈l)(h:x≠y):1<l.length:=by
 match l,hx,hy with
 | [a],hx,hy=>simp at hx hy;exact(h (hx.trans hy.symm)).elim
 |a::b::l,_,_=>simp
theorem cE{cl:List Int}{c:Int}{x:Nat}:x∈wu cl c<->x<cl.length/\cl.getD x 0=c:=by
 unfold wu;rw[yY,zY,yt]
theorem ZeQ(cl:List Int)(c:Int):(wu cl c).Nodup:=vg.filter _
theorem Tb{A:List LB}{cl:List Int}(h:qz A cl){x y:Nat}(hx:x<cl.length)(hy:y<cl.length)(e:cl.getD x 0=cl.getD y 0):x=y:=by
 by_cases hxy:x=y
 exact hxy;exfalso;have hc:cl.getD x 0∈cl:=by rw[zi,z1 hx];exact zq hx
 obtain⟨h1,h2⟩:=h.cs _ hc;have h3:=Zj4 (ZeQ cl (cl.getD x 0)) (cE.2 ⟨hx,rfl⟩) (cE.2 ⟨hy,e.symm⟩) hxy;have h4:=List.find?_eq_none.1 h.one (cl.getD x 0).toNat (zY.2 (by omega));rw[yt,Int.toNat_of_nonneg h1]at h4;exact h4 h3
theorem EC{A:List LB}{cl:List Int}(h:qz A cl){t u:Tm}(ht:t.k=2->t.t∈A)(hu:u.k=2->u.t∈A)(e:uU A cl t=uU A cl u):t=u:=by
 unfold uU at e;by_cases h1:t.k=2
 .by_cases h2:u.k=2
  .rw[z8 h1,z8 h2]at e;have i1:=zy (ht h1);have i2:=zy (hu h2);have a1:A[A.idxOf t.t]=t.t:=zV i1;have a2:A[A.idxOf u.t]=u.t:=zV i2;obtain⟨k1,t1,y1,l1⟩:=t;obtain⟨k2,t2,y2,l2⟩:=u;simp only[Tm.mk.injEq]at e a1 a2 i1 i2⊢;obtain⟨e1,e2,e3,e4⟩:=e;refine⟨e1,?_,e3,e4⟩;unfold bJ at e2;injection e2 with _ e2;have e5:=HJ e2;have b1:cl.getD (A.idxOf t1) 0∈cl:=by rw[zi,z1 (by rw[h.cn];exact i1)];exact zq _
   have b2:cl.getD (A.idxOf t2) 0∈cl:=by rw[zi,z1 (by rw[h.cn];exact i2)];exact zq _
   have c1:=(h.cs _ b1).1;have c2:=(h.cs _ b2).1;have e6:=Tb h (by rw[h.cn];exact i1) (by rw[h.cn];exact i2) (show cl.getD (A.idxOf t1) 0=cl.getD (A.idxOf t2) 0 by omega);rw[<-a1,<-a2];simp only[e6]
  .rw[z8 h1,z6 h2]at e;exact(h2 (by rw[<-e];exact h1)).elim
 .by_cases h2:u.k=2
  .rw[z6 h1,z8 h2]at e;exact(h1 (by rw[e];exact h2)).elim
  .rw[z6 h1,z6 h2]at e;exact e
theorem ZeR{A:List LB}{cl:List Int}(h:qz A cl){q r:Qd}(hq:∀s∈ZB q,s∈A)(hr:∀s∈ZB r,s∈A)(e:JT A cl q=JT A cl r):q=r:=by
 obtain⟨a1,a2,a3,a4⟩:=UB hq;obtain⟨b1,b2,b3,b4⟩:=UB hr;unfold JT at e;injection e with e1 e2 e3 e4;have f1:=EC h a1 b1 e1;have f2:=EC h a2 b2 e2;have f3:=EC h a3 b3 e3;have f4:=EC h a4 b4 e4;cases q;cases r
 simp only at f1 f2 f3 f4;subst f1 f2 f3 f4
 rfl
theorem ZgM{A:List LB}{l:List Qd}{cl:List Int}(h:qz A cl)(hA:A.Nodup)(hl:jr ZJ l)(hm:∀s∈ZR l,s∈A):wQ ZJ (l.map (XO (kG A cl)))=ZH A l cl:=by
 have hq:∀q∈l,∀s∈ZB q,s∈A:=fun q hq s hs=>hm s (xy.2 ⟨q,hq,hs⟩);have he:l.map (XO (kG A cl))=l.map (JT A cl):=zZ fun q hq1=>ZbX hA (hq q hq1);rw[he];symm
 have hn:(l.map (JT A cl)).Nodup:=by
  have h1:=Yb qO hl;rw[xR]at h1⊢;rw[vT];refine List.Pairwise.imp_of_mem (fun{a b} ha hb hne e=>hne (ZeR h (hq a ha) (hq b hb) e)) h1
 refine Cp qO ?_ fun x=>by unfold ZH;rw[List.mem_mergeSort]
 have h1:=X6 qO (l.map (JT A cl));have h2:((l.map (JT A cl)).mergeSort (wW ZJ)).Nodup:=(yV _ _).nodup_iff.2 hn;unfold ZH jr;rw[xR]at h2;refine(h1.and h2).imp fun{a b} hab=>?_;have h3:=qO.zero a b;have h4:ZJ a b≠0:=fun e=>hab.2 (h3.1 e);have h5:=hab.1;omega
section
variable {K:Type}{c:K->K->Int}
theorem jS.pre(h:jS c):Pre c where
 anti a b:=by have:=h.anti a b;omega
 trans:=h.trans
theorem Tl[DecidableEq K](h:jS c){l m:List K}(hp:m.Perm l)(hs:m.Pairwise fun x y=>c x y<=0):m=l.mergeSort (wW c):=by
 refine List.Perm.eq_of_pairwise (le:=fun x y=>c x y<=0) (fun a b _ _ h1 h2=>?_) hs (X6 h l) (hp.trans (yV l _).symm);have:=h.anti a b;exact(h.zero a b).1 (by omega)
end
end Go.Our
