/- Part 32: ClsM, TwinM. Conditions: as each part says. -/
import Derived.Test.YtlcbipfmodcedaaGreatDoorCiso27
import Derived.Test.YtlcbipfmodcedaaGreatDoorCiso31
set_option linter.unusedVariables false
set_option linter.unusedSimpArgs false
namespace Go.Our
open Go.Sx Go.Lib
theorem Z9b{K:Type}{c:K->K->Int}(h:jS c){l:List K}(hr:jr c l):l.Nodup:=
 List.Pairwise.imp (fun{a b} h1 e=>by subst e;have:=h.self a;omega) hr
theorem ZgB(cl:List Int):(Z1 (cl.mergeSort (wW wP))).length=kE cl:=by
 have h1:(Z1 (cl.mergeSort (wW wP))).Nodup:=Z9b eV (Uq eV _ (X6 eV cl));have h2:=En cl;refine(je h1 h2 fun x=>?_).length_eq;rw[VO,List.mem_mergeSort,X7]
theorem SL(cl:List Int):kE cl<=cl.length:=by
 have:=Bn cl cl.length;rwa [yb]at this
theorem Af{K:Type}[DecidableEq K]:∀{x l:List K},x.Nodup->(∀z∈x,z∈l)->x.length<=l.length
 | [],l,_,_=>by simp
 |z::x,l,hn,h=>by
  have hn':=xb.1 hn;have hz:z∈l:=h z (zF ..);have:=Af (x:=x) (l:=l.erase z) hn'.2 fun w hw=>(List.mem_erase_of_ne (fun(e:w=z)=>hn'.1 (e▸hw))).2 (h w (zG _ hw));rw[List.length_erase_of_mem hz]at this;have:=List.length_pos_of_mem hz;rw[List.length_cons];omega
theorem SM{K:Type}{p q:K->Bool}:∀{l:List K} {x:K},x∈l->(∀z∈l,p z=true->q z=true)->p x=false->q x=true->l.countP p<l.countP q
 |y::l,x,hx,h,hp,hq=>by
  have hm:l.countP p<=l.countP q:=List.countP_mono_left fun z hz=>h z (zG _ hz);rw[List.countP_cons,List.countP_cons];rcases zI.1 hx with rfl|hx
  rw[hp,hq];simp;omega
  .have:=SM hx (fun z hz=>h z (zG _ hz)) hp hq;have:=h y (zF ..);by_cases e:p y=true
   rw[e,this e];simp;omega
   .simp only[Bool.not_eq_true]at e;rw[e];simp;omega
theorem SN{K:Type}{c:K->K->Int}(h:Pre c){l:List K}{x y:K}(hx:x∈l)(hc:c x y<0):w8 c l x<w8 c l y:=by
 refine SM hx (fun z hz hp=>?_) ?_ ?_;simp only[yt]at*;exact h.bG hp (by omega);simp[h.refl];simpa using hc
theorem ZiV{K:Type}{c:K->K->Int}(h:Pre c){l:List K}{x y:K}(hx:x∈l)(hy:y∈l)(e:w8 c l x=w8 c l y):c x y=0:=by
 rcases Int.lt_trichotomy (c x y) 0 with h1|h1|h1
 have:=SN h hx h1;omega;exact h1;have:=SN h hy ((h.anti y x).2 h1);omega
theorem ZeK(A:List LB)(l:List Qd)(cl:List Int){x y:Nat}(hx:x<cl.length)(hy:y<cl.length)(e:(YL A l cl)[x]'(by rw[YM];exact hx)=(YL A l cl)[y]'(by rw[YM];exact hy)):cl[x]=cl[y]:=by
 unfold YL at e;simp only[y9,yS]at e;have h:=ZiV (W6 A l cl) (zY.2 hx) (zY.2 hy) (by omega);unfold Vw at h;rw[zi,zi,z1 hx,z1 hy,Option.getD_some,Option.getD_some]at h;split at h
 rename_i e;exact(eV.zero _ _).1 e;exact(eV.zero _ _).1 h
theorem ZiW(f:Int->Int)(s:List Int):kE (s.map f)<=kE s:=by
 unfold kE;rw[show(ZC s).length=((ZC s).map f).length from(zj ..).symm];refine Af (En _) fun z hz=>?_;rw[X7]at hz;obtain⟨y,hy,rfl⟩:=zM.1 hz;exact zM.2 ⟨y,(X7 s).2 hy,rfl⟩
theorem Ag(A:List LB)(l:List Qd)(cl:List Int):kE cl<=kE (YL A l cl):=by
 have e:cl=(YL A l cl).map fun v=>cl.getD ((YL A l cl).idxOf v) 0:=by
  apply yy (by rw[zj,YM]);intro i h1 h2;rw[y9];have hi:i< (YL A l cl).length:=by rw[YM];exact h1
  have hm:=zq hi;have hj:=zy hm;have hj':(YL A l cl).idxOf (YL A l cl)[i]<cl.length:=by rw[YM]at hj;exact hj
  rw[zi,z1 hj',Option.getD_some];exact ZeK A l cl h1 hj' (zV hj).symm
 have h:=ZiW (fun v=>cl.getD ((YL A l cl).idxOf v) 0) (YL A l cl);rwa [<-e]at h
end Go.Our
namespace Go.Our
open Go.Sx Go.Lib
structure iV(n:Nat)(p:Nat->Nat):Prop where
 cN:∀x,x<n->p x<n
 inj:∀x y,x<n->y<n->p x=p y->x=y
theorem iV.perm{n:Nat}{p:Nat->Nat}(h:iV n p):((List.range n).map p).Perm (List.range n):=by
 have hn:((List.range n).map p).Nodup:=by
  have h1:(List.range n).Nodup:=vg;rw[xR]at h1⊢;rw[vT];exact List.Pairwise.imp_of_mem (fun{a b} ha hb hne e=>hne (h.inj a b (zY.1 ha) (zY.1 hb) e)) h1
 refine je hn vg fun z=>⟨fun hz=>?_,fun hz=>?_⟩
 .obtain⟨x,hx,rfl⟩:=zM.1 hz;exact zY.2 (h.cN x (zY.1 hx))
 .by_cases hm:z∈(List.range n).map p
  exact hm
  .have h1:=Af (x:=z::(List.range n).map p) (l:=List.range n) (xb.2 ⟨hm,hn⟩) (fun w hw=>by
    rcases zI.1 hw with rfl|hw
    exact hz
    .obtain⟨x,hx,rfl⟩:=zM.1 hw
     exact zY.2 (h.cN x (zY.1 hx)))
   simp at h1;omega
def oI(A C:List LB)(p:Nat->Nat)(t:Tm):Tm:=if t.k=2 then{t with t:=C.getD (p (A.idxOf t.t)) []}else t
def sq(A C:List LB)(p:Nat->Nat)(q:Qd):Qd:=⟨oI A C p q.s,oI A C p q.p,oI A C p q.o,oI A C p q.g⟩
structure Twin(A C:List LB)(l m:List Qd)(p:Nat->Nat):Prop where
 len:C.length=A.length
 turn:iV A.length p
 ndA:A.Nodup
 ndC:C.Nodup
 mem:∀s∈ZR l,s∈A
 ay:m.Perm (l.map (sq A C p))
structure eL(n:Nat)(p:Nat->Nat)(cl uY:List Int):Prop where
 l1:cl.length=n
 l2:uY.length=n
 at':∀x,x<n->uY.getD (p x) 0=cl.getD x 0
theorem Av{K:Type}(l:List K)(d:K):(List.range l.length).map (fun k=>l.getD k d)=l:=by
 apply yy (by simp);intro i h1 h2;rw[y9,yS,zi,z1 h2,Option.getD_some]
theorem J5{K:Type}{l:List K}{d:K}{i:Nat}(h:i<l.length):l.getD i d=l[i]:=by
 rw[zi,z1 h,Option.getD_some]
theorem J8{f:Nat->Int}{n x:Nat}(hx:x<n):((List.range n).map f).getD x 0=f x:=by
 rw[J5 (by simpa using hx),y9,yS]
theorem Tq(A:List LB)(l:List Qd)(cl:List Int)(x:Nat):UC A l cl x=(l.filter fun q=>decide (A.getD x []∈ZB q)).map (lM A cl x):=by
 unfold UC nQ;conv=>rhs;rw[<-Av l ⟨ZF,ZF,ZF,ZF⟩,vo,yq]
 rfl
section
variable {A C:List LB}{l m:List Qd}{p:Nat->Nat}(T:Twin A C l m p)
include T
theorem Twin.idx{i:Nat}(hi:i<A.length):C.idxOf (C.getD (p i) [])=p i:=by
 have h1:p i<C.length:=by rw[T.len];exact T.turn.cN i hi
 rw[J5 h1];have h2:=zy (zq h1);exact(yZ T.ndC).1 (zV h2)
theorem Twin.lab{t:Tm}{q:Qd}(hq:q∈l)(ht:t.k=2->t.t∈ZB q)(h:t.k=2):A.idxOf t.t<A.length:=
 zy (T.mem _ (xy.2 ⟨q,hq,ht h⟩))
theorem Twin.seen{cl uY:List Int}(c:eL A.length p cl uY){x:Nat}(hx:x<A.length){t:Tm}(ht:t.k=2->A.idxOf t.t<A.length):Xn C uY (p x) (oI A C p t)=Xn A cl x t:=by
 unfold Xn oI;by_cases h:t.k=2
 .have hi:=ht h;rw[z8 h,z8 h,z8 h];dsimp only;rw[T.idx hi,c.at' _ hi];by_cases e:A.idxOf t.t=x
  rw[z8 e,z8 (by rw[e])];rw[z6 e,z6 (fun e2=>e (T.turn.inj _ _ hi hx e2))]
 rw[z6 h,z6 h,z6 h]
theorem Twin.four{q:Qd}(hq:q∈l):(q.s.k=2->A.idxOf q.s.t<A.length)/\(q.p.k=2->A.idxOf q.p.t<A.length)/\(q.o.k=2->A.idxOf q.o.t<A.length)/\(q.g.k=2->A.idxOf q.g.t<A.length):=by
 obtain⟨h1,h2,h3,h4⟩:=UB (q:=q) (A:=A) fun s hs=>T.mem s (xy.2 ⟨q,hq,hs⟩);exact⟨fun h=>zy (h1 h),fun h=>zy (h2 h),fun h=>zy (h3 h),fun h=>zy (h4 h)⟩
theorem Twin.view{cl uY:List Int}(c:eL A.length p cl uY){x:Nat}(hx:x<A.length){q:Qd}(hq:q∈l):lM C uY (p x) (sq A C p q)=lM A cl x q:=by
 obtain⟨h1,h2,h3,h4⟩:=T.four hq;unfold lM sq;dsimp only;rw[T.seen c hx h1,T.seen c hx h2,T.seen c hx h3,T.seen c hx h4]
theorem Twin.EI{x:Nat}(hx:x<A.length){t:Tm}(ht:t.k=2->A.idxOf t.t<A.length):C.getD (p x) []∈ZV (oI A C p t)<->A.getD x []∈ZV t:=by
 unfold ZV oI;by_cases h:t.k=2
 .have hi:=ht h;rw[z8 h,z8 h,z8 h,zJ,zJ];dsimp only;have ha:A.getD (A.idxOf t.t) []=t.t:=by rw[J5 hi];exact zV hi
  constructor
  .intro e;have e2:=zf C.idxOf e;rw[T.idx hx,T.idx hi]at e2;rw[T.turn.inj _ _ hx hi e2,ha]
  .intro e;rw[<-ha,J5 hx,J5 hi]at e;rw[(yZ T.ndA).1 e]
 .rw[z6 h];simp[h]
theorem Twin.rX{x:Nat}(hx:x<A.length){q:Qd}(hq:q∈l):C.getD (p x) []∈ZB (sq A C p q)<->A.getD x []∈ZB q:=by
 obtain⟨h1,h2,h3,h4⟩:=T.four hq;unfold ZB sq;simp only[zX];rw[T.EI hx h1,T.EI hx h2,T.EI hx h3,T.EI hx h4]
theorem Twin.views{cl uY:List Int}(c:eL A.length p cl uY){x:Nat}(hx:x<A.length):(UC C m uY (p x)).Perm (UC A l cl x):=by
 rw[Tq,Tq];refine((T.ay.filter _).map _).trans ?_;rw[vo,yq]
 have hf:(l.filter ((fun q=>decide (C.getD (p x) []∈ZB q))∘sq A C p))=l.filter fun q=>decide (A.getD x []∈ZB q):=
  vS fun q hq=>ve.2 (T.rX hx hq)
 rw[hf];refine .of_eq (zZ fun q hq=>?_);exact T.view c hx (yY.1 hq).1
theorem Twin.sign{cl uY:List Int}(c:eL A.length p cl uY){x:Nat}(hx:x<A.length):YQ C m uY (p x)=YQ A l cl x:=by
 unfold YQ;exact Tl qO ((yV _ _).trans (T.views c hx)) (X6 qO _)
theorem Twin.node{cl uY:List Int}(c:eL A.length p cl uY){a b:Nat}(ha:a<A.length)(hb:b<A.length):Vw C m uY (p a) (p b)=Vw A l cl a b:=by
 unfold Vw;rw[c.at' a ha,c.at' b hb,T.sign c ha,T.sign c hb]
theorem Twin.Aw{cl uY:List Int}(c:eL A.length p cl uY){x:Nat}(hx:x<A.length):w8 (Vw C m uY) (List.range A.length) (p x)=w8 (Vw A l cl) (List.range A.length) x:=by
 rw[<-S5 T.turn.perm];unfold w8;rw[List.countP_map];refine List.countP_congr fun y hy=>?_;show decide (Vw C m uY (p y) (p x)<0)=true<->_
 rw[T.node c (zY.1 hy) hx]
theorem Twin.step{cl uY:List Int}(c:eL A.length p cl uY):eL A.length p (YL A l cl) (YL C m uY) where
 l1:=by rw[YM,c.l1]
 l2:=by rw[YM,c.l2]
 at' x hx:=by
  unfold YL;rw[c.l1,c.l2,J8 hx,J8 (T.turn.cN x hx),T.Aw c hx]
theorem Twin.perm{cl uY:List Int}(c:eL A.length p cl uY):uY.Perm cl:=by
 have h1:=Av uY 0;have h2:=Av cl 0;rw[c.l2]at h1;rw[c.l1]at h2;rw[<-h1,<-h2];refine(T.turn.perm.map _).symm.trans ?_;rw[yq];exact .of_eq (zZ fun x hx=>c.at' x (zY.1 hx))
theorem Twin.cls{cl uY:List Int}(c:eL A.length p cl uY):kE uY=kE cl:=(WR (T.perm c)).length_eq
theorem Twin.refs{cl F:List Int}(h:Refs A l cl F):∀uY,eL A.length p cl uY->∃F',Refs C m uY F'/\eL A.length p F F':=by
 induction h with
 |stop hn=>exact fun uY c=>⟨_, .stop (by rw[T.cls (T.step c),T.cls c];exact hn),T.step c⟩
 |go hy _ ih=>
  intro uY c;obtain⟨F',h1,h2⟩:=ih _ (T.step c);exact⟨F', .go (by rw[T.cls (T.step c),T.cls c];exact hy) h1,h2⟩
end
theorem Tr(A:List LB)(l:List Qd):∀(k:Nat) (cl:List Int),cl.length<=kE cl+k->∃F,Refs A l cl F
 |0,cl,h=>⟨_, .stop (by have h1:=Ag A l cl;have h2:=SL (YL A l cl);rw[YM]at h2;omega)⟩
 |k+1,cl,h=>by
  by_cases e:kE (YL A l cl)=kE cl
  exact⟨_, .stop e⟩
  .obtain⟨F,hF⟩:=Tr A l k (YL A l cl) (by have:=Ag A l cl;rw[YM];omega);exact⟨F, .go e hF⟩
theorem Zj8(A:List LB)(l:List Qd)(cl:List Int):Refs A l cl (wV A l cl):=by
 obtain⟨F,hF⟩:=Tr A l cl.length cl (by omega);rw[GV hF];exact hF
noncomputable def JQ (A:List LB)(l:List Qd):Nat->List Int->List (Option (List Int))
 |0,_=>[]
 |k+1,cl=>match YY cl with
  |none=>[some cl]
  |some c=>none::(wu cl (c:Int)).flatMap fun x=>JQ A l k (wV A l (YI cl (c:Int) x))
theorem EJ{A:List LB}{l:List Qd}{k:Nat}{cl:List Int}(h:YY cl=none):JQ A l (k+1) cl=[some cl]:=by unfold JQ;rw[h]
theorem EK{A:List LB}{l:List Qd}{k c:Nat}{cl:List Int}(h:YY cl=some c):JQ A l (k+1) cl=none::(wu cl (c:Int)).flatMap fun x=>JQ A l k (wV A l (YI cl (c:Int) x)):=by
 conv=>lhs;unfold JQ
 rw[h]
def lT(f:List (Option (List Int))):List (List Int):=f.filterMap id
theorem Ts{A:List LB}{l:List Qd}{B:Nat}:∀(k:Nat) (cl:List Int) (s:Nat×List (List Int)),
 (s.1+(JQ A l k cl).length<=B->JS A l B k cl s=(s.1+(JQ A l k cl).length,s.2++lT (JQ A l k cl)))/\(B<s.1+(JQ A l k cl).length->B< (JS A l B k cl s).1)
 |0,cl,s=>⟨fun _=>by show s=(s.1+0,s.2++ []);rw[Nat.add_zero,zU],fun h=>h⟩
 |k+1,cl,s=>by
  have go:∀(c:Int) (xs:List Nat) (s:Nat×List (List Int)),(s.1+(xs.flatMap fun x=>JQ A l k (wV A l (YI cl c x))).length<=B->Wg A l B k cl c xs s=(s.1+(xs.flatMap fun x=>JQ A l k (wV A l (YI cl c x))).length,s.2++lT (xs.flatMap fun x=>JQ A l k (wV A l (YI cl c x)))))/\
   (B<s.1+(xs.flatMap fun x=>JQ A l k (wV A l (YI cl c x))).length->B< (Wg A l B k cl c xs s).1):=fun c xs=>by
   induction xs with
   |nil=>exact fun s=>⟨fun _=>by show s=(s.1+0,s.2++ []);rw[Nat.add_zero,zU],fun h=>h⟩
   |cons x xs ih=>
    intro s;obtain⟨t1,t2⟩:=Ts k (wV A l (YI cl c x)) s;rw[vu,ze];generalize JQ A l k (wV A l (YI cl c x))=f at t1 t2⊢;by_cases h:B<s.1
    .rw[JP h];exact⟨fun h2=>by omega,fun _=>h⟩
    .rw[Ez h];by_cases h2:s.1+f.length<=B
     .rw[t1 h2];obtain⟨i1,i2⟩:=ih (s.1+f.length,s.2++lT f);dsimp only at i1 i2;refine⟨fun h3=>?_,fun h3=>i2 (by omega)⟩;rw[i1 (by omega),xx,zR];unfold lT;rw[List.filterMap_append]
     .have t3:=t2 (by omega);rw[JP t3];exact⟨fun h3=>by omega,fun _=>t3⟩
  by_cases h:B<s.1+1
  .rw[Ew h]
   have hp:0< (JQ A l (k+1) cl).length:=by
    cases hs:YY cl with
    |none=>rw[EJ hs];simp
    |some c=>rw[EK hs];simp
   exact⟨fun h2=>by omega,fun _=>h⟩
  .cases hs:YY cl with
   |none=>
    rw[UD h hs,EJ hs];exact⟨fun _=>rfl,fun h2=>(h h2).elim⟩
   |some c=>
    rw[Ey h hs,EK hs];obtain⟨g1,g2⟩:=go (c:Int) (wu cl (c:Int)) (s.1+1,s.2);dsimp only at g1 g2;rw[List.length_cons];refine⟨fun h2=>?_,fun h2=>g2 (by omega)⟩;rw[g1 (by omega)];refine Prod.ext ?_ rfl;show s.1+1+_=s.1+(_+1)
    omega
section
variable {A C:List LB}{l m:List Qd}{p:Nat->Nat}(T:Twin A C l m p)
include T
theorem Twin.wV{cl uY:List Int}(c:eL A.length p cl uY):eL A.length p (wV A l cl) (wV C m uY):=by
 obtain⟨F',h1,h2⟩:=T.refs (Zj8 A l cl) uY c;rw[GV h1];exact h2
theorem Twin.pos{cl uY:List Int}(c:eL A.length p cl uY)(k:Int):(wu uY k).Perm ((wu cl k).map p):=by
 unfold wu;rw[c.l1,c.l2];refine(T.turn.perm.symm.filter _).trans ?_;rw[vo];refine .of_eq (zf _ (vS fun x hx=>?_));show decide (uY.getD (p x) 0=k)=_
 rw[c.at' x (zY.1 hx)]
theorem Twin.split{cl uY:List Int}(c:eL A.length p cl uY):YY uY=YY cl:=by
 unfold YY;rw[c.l1,c.l2];congr 1;funext k;rw[(T.pos c k).length_eq,zj]
theorem Twin.child{cl uY:List Int}(c:eL A.length p cl uY)(k:Int){x:Nat}(hx:x<A.length):eL A.length p (YI cl k x) (YI uY k (p x)) where
 l1:=by rw[Ev,c.l1]
 l2:=by rw[Ev,c.l2]
 at' y hy:=by
  unfold YI;rw[c.l1,c.l2,J8 hy,J8 (T.turn.cN y hy),c.at' y hy];by_cases e:y=x
  rw[z6 (fun h=>h.1 (by rw[e])),z6 (fun h=>h.1 e)]
  .have e2:p y≠p x:=fun h=>e (T.turn.inj _ _ hy hx h);by_cases h:cl.getD y 0=k
   rw[z8 ⟨e2,h⟩,z8 ⟨e,h⟩];rw[z6 (fun h2=>h h2.2),z6 (fun h2=>h h2.2)]
theorem Twin.uU{cl uY:List Int}(c:eL A.length p cl uY){t:Tm}(ht:t.k=2->A.idxOf t.t<A.length):uU C uY (oI A C p t)=uU A cl t:=by
 unfold Go.Our.uU oI;by_cases h:t.k=2
 .have hi:=ht h;rw[z8 h,z8 h,z8 h];dsimp only;rw[T.idx hi,c.at' _ hi]
 rw[z6 h,z6 h,z6 h]
theorem Twin.form{cl uY:List Int}(c:eL A.length p cl uY):ZH C m uY=ZH A l cl:=by
 unfold ZH;refine Tl qO ((yV _ _).trans ((T.ay.map _).trans ?_)) (X6 qO _);rw[yq];refine .of_eq (zZ fun q hq=>?_);obtain⟨h1,h2,h3,h4⟩:=T.four hq;show JT C uY (sq A C p q)=_
 unfold JT sq;dsimp only;rw[T.uU c h1,T.uU c h2,T.uU c h3,T.uU c h4]
theorem Twin.full:∀(k:Nat) (cl uY:List Int),eL A.length p cl uY->((JQ C m k uY).map (Option.map (ZH C m))).Perm ((JQ A l k cl).map (Option.map (ZH A l)))
 |0,_,_,_=> .refl _
 |k+1,cl,uY,c=>by
  cases hs:YY cl with
  |none=>
   rw[EJ hs,EJ ((T.split c).trans hs)];exact .of_eq (by show [some (ZH C m uY)]=[some (ZH A l cl)];rw[T.form c])
  |some i=>
   rw[EK hs,EK ((T.split c).trans hs),zL,zL];refine .cons _ ?_;rw[List.map_flatMap,List.map_flatMap];refine((T.pos c (i:Int)).flatMap_right _).trans ?_;rw[List.flatMap_map];have hx:∀x∈wu cl (i:Int),x<A.length:=fun x hx=>by have:=(cE.1 hx).1;rw[c.l1]at this;exact this
   generalize wu cl (i:Int)=xs at hx
   induction xs with
   |nil=>exact .refl _
   |cons x xs ih=>
    rw[vu,vu];exact(Twin.full k _ _ (T.wV (T.child c _ (hx x (zF ..))))).append (ih fun y hy=>hx y (zG _ hy))
end
theorem Tv(fm:List Int->List Qd)(Ls:List (List Int)):∀f c,Js fm Ls=some (f,c)->f∈Ls.map fm/\∀g∈Ls.map fm,Yh f g<=0:=by
 have go:∀n,∀Ls:List (List Int),Ls.length=n->∀f c,Js fm Ls=some (f,c)->f∈Ls.map fm/\∀g∈Ls.map fm,Yh f g<=0:=by
  intro n
  induction n with
  |zero=>
   intro Ls h f c hb;rw[zO.1 h]at hb;cases hb
  |succ n ih=>
   intro Ls h f c hb;have hne:Ls≠ []:=fun e=>by rw[e]at h;simp at h
   obtain⟨Ms,cl,rfl⟩:∃Ms cl,Ls=Ms++ [cl]:=⟨Ls.dropLast,Ls.getLast hne,(List.dropLast_concat_getLast hne).symm⟩;rw[SZ]at hb;have hMs:Ms.length=n:=by rw[ze]at h;simp at h;exact h
   rw[yo,zL,yX];cases hM:Js fm Ms with
   |none=>
    rw[hM]at hb;injection hb with hb;injection hb with h1 h2;subst h1 h2
    have:Ms=[]:=by
     by_cases e:Ms=[]
     exact e
     .obtain⟨d,_,e2⟩:=EA fm e;rw[hM]at e2;cases e2
    subst this;refine⟨by simp,fun g hg=>?_⟩;rw[yX,List.nil_append,zJ]at hg;subst hg;have:=(qH.zero (fm cl) (fm cl)).2 rfl;omega
   |some q=>
    obtain⟨f0,c0⟩:=q;obtain⟨i1,i2⟩:=ih Ms hMs f0 c0 hM;rw[hM]at hb;have e:Xv fm (some (f0,c0)) cl=if Yh (fm cl) f0<0 then some (fm cl,cl)else some (f0,c0):=rfl
    rw[e]at hb;by_cases h3:Yh (fm cl) f0<0
    .rw[z8 h3]at hb;injection hb with hb;injection hb with h1 h2;subst h1 h2;refine⟨by simp,fun g hg=>?_⟩;rcases zX.1 hg with hg|hg
     exact qH.trans _ _ _ (by omega) (i2 g hg)
     .rw[zJ.1 hg];have:=(qH.zero (fm cl) (fm cl)).2 rfl;omega
    .rw[z6 h3]at hb;injection hb with hb;injection hb with h1 h2;subst h1 h2;refine⟨xW _ i1,fun g hg=>?_⟩;rcases zX.1 hg with hg|hg
     exact i2 g hg
     .rw[zJ.1 hg];have:=qH.anti (fm cl) f0;omega
 exact go _ Ls rfl
theorem Tw(A:List LB)(l:List Qd)(B:Nat):((ZU A l B).1<=B<->(JQ A l (B+1) (wV A l (List.replicate A.length 0))).length<=B)/\((ZU A l B).1<=B->(ZU A l B).2=lT (JQ A l (B+1) (wV A l (List.replicate A.length 0)))):=by
 obtain⟨h1,h2⟩:=Ts (A:=A) (l:=l) (B:=B) (B+1) (wV A l (List.replicate A.length 0)) (0,[]);simp only[zw,List.nil_append]at h1 h2;have e:ZU A l B=JS A l B (B+1) (wV A l (List.replicate A.length 0)) (0,[]):=rfl;rw[e];by_cases h:(JQ A l (B+1) (wV A l (List.replicate A.length 0))).length<=B
 rw[h1 h];exact⟨⟨fun _=>h,fun _=>h⟩,fun _=>rfl⟩
 .have:=h2 (by omega);exact⟨⟨fun h3=>by omega,fun h3=>(h h3).elim⟩,fun h3=>by omega⟩
theorem Tx(f:List (Option (List Int)))(fm:List Int->List Qd):(lT f).map fm=(f.map (Option.map fm)).filterMap id:=by
 unfold lT
 induction f with
 |nil=>rfl
 |cons x f ih=>
  cases x with
  |none=>rw[zL];simpa using ih
  |some x=>rw[zL];simpa using ih
theorem Twin.search{A C:List LB}{l m:List Qd}{p:Nat->Nat}(T:Twin A C l m p)(B:Nat):
 ((ZU C m B).1<=B<->(ZU A l B).1<=B)/\((ZU A l B).1<=B->∀f c f' c',Js (ZH A l) (ZU A l B).2=some (f,c)->Js (ZH C m) (ZU C m B).2=some (f',c')->f'=f):=by
 have c0:eL A.length p (List.replicate A.length 0) (List.replicate C.length 0):=⟨by simp,by simp[T.len],fun x hx=>by
  have h1:=T.turn.cN x hx
  rw[J5 (by rw[zT,T.len];exact h1),J5 (by rw[zT];exact hx)];simp⟩
 have hp:=T.full (B+1) _ _ (T.wV c0);obtain⟨a1,a2⟩:=Tw A l B;obtain⟨b1,b2⟩:=Tw C m B;generalize JQ A l (B+1) (Go.Our.wV A l (List.replicate A.length 0))=f at hp a1 a2;generalize JQ C m (B+1) (Go.Our.wV C m (List.replicate C.length 0))=g at hp b1 b2;have hl:=hp.length_eq;rw[zj,zj]at hl;refine⟨by rw[a1,b1,hl],fun h f1 c1 f2 c2 h1 h2=>?_⟩;rw[a2 h]at h1;rw[b2 (b1.2 (by rw[hl];exact a1.1 h))]at h2
 have hq:((lT g).map (ZH C m)).Perm ((lT f).map (ZH A l)):=by
  rw[Tx,Tx];exact hp.filterMap _
 obtain⟨i1,i2⟩:=Tv _ _ _ _ h1;obtain⟨j1,j2⟩:=Tv _ _ _ _ h2;have k1:=i2 f2 (hq.mem_iff.1 j1);have k2:=j2 f1 (hq.mem_iff.2 i1);have:=qH.anti f1 f2;exact((qH.zero f1 f2).1 (by omega)).symm
end Go.Our
