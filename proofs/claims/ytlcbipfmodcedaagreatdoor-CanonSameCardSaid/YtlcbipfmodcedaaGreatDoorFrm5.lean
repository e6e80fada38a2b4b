/- Part 5: SxTie. Conditions: as each part says. -/
import Derived.Test.YtlcbipfmodcedaaGreatDoorFrm3
import Derived.Test.YtlcbipfmodcedaaGreatDoorFrm4
set_option linter.unusedVariables false
set_option linter.unusedSimpArgs false
namespace Go.Sx
open Go
def mH(T:wU)(t:TypeId):Sh->TypeDesc->Bool
 | .int k, .int k'=>XQ k k'
 | .bool, .bool=>true
 | .str, .string=>true
 | .ptr e, .pointer e'=>Nat.beq e e'
 | .slice e, .slice e'=>Nat.beq e e'
 | .array n e, .array n' e'=>Nat.beq n n'&&Nat.beq e e'&&Nat.beq (T.size t) (n*T.size e)&&qE T e
 | .struct fs, .struct fields=>(fields.toList.map fun f=>(f.offset,f.type))==fs&&fs.all fun p=>qE T p.2
 | .map k e, .map k' e'=>Nat.beq k k'&&Nat.beq e e'
 | .iface, .interface _=>true
 | .func, .func _ _ _=>true
 | .plain, .float _=>true
 | .plain, .complex _=>true
 | .plain, .chan _ _=>true
 | .plain, .unsafePointer=>true
 | .plain, .tuple _=>true
 |_,_=>false
theorem IY{T:wU}{t:TypeId}{sh:Sh}{d:TypeDesc}(h:mH T t sh d=true):qx T t sh d:=by
 have ok:∀{e},qE T e=true->T.sh e≠ .other:=fun h e=>by simp[qE,e]at h
 cases sh<;>cases d<;>simp only[mH,xZ,zj]at h<;>simp only[qx]
 rw[wN.1 h];rw[Zr h];rw[Zr h]
 .obtain⟨⟨⟨h1,h2⟩,h3⟩,h4⟩:=h;exact⟨by rw[Zr h1,Zr h2],Zr h3,ok h4⟩
 .obtain⟨h1,h2⟩:=h;exact⟨_,rfl,by simpa using h1,fun p hp=>ok (zT.1 h2 p hp)⟩
 obtain⟨h1,h2⟩:=h;rw[Zr h1,Zr h2];exact⟨_,rfl⟩;exact⟨_,_,_,rfl⟩
def Dl:SV->Value->Bool
 | .bool a, .bool b=>a==b
 | .int k a, .int k' b=>XQ k k'&&a==b
 | .str [], .string s=>s.data.toList.isEmpty
 | .val (.pointer none), .pointer none=>true
 | .val (.slice none 0 0), .slice none 0 0=>true
 | .val (.map none), .map none=>true
 | .val (.chan none), .chan none=>true
 | .val .nilFunc, .nilFunc=>true
 | .val .nilIface, .nilIface=>true
 |_,_=>false
def sK:List SV->List Value->Bool
 | [],[]=>true
 |x::xs,y::ys=>Dl x y&&sK xs ys
 |_,_=>false
theorem IZ{x:SV}{v:Value}(h:Dl x v=true):Den [] x v/\v.oneCell'=true:=by
 unfold Dl at h;split at h
 case h_10=>cases h
 .rename_i a b;have:a=b:=by simpa using h
  subst this;exact⟨rfl,rfl⟩
 .simp only[zj]at h;rename_i k a k' b;have h2:a=b:=by simpa using h.2
  rw[wN.1 h.1,h2];exact⟨rfl,rfl⟩
 .rename_i s;have h2:s.data.toList=[]:=by simpa using h
  refine⟨?_,rfl⟩;simp only[Den];congr 1;apply ByteArray.ext;apply yD;simpa using h2
 all_goals exact⟨⟨rfl,rfl⟩,rfl⟩
theorem PV:∀{xs:List SV} {vs:List Value},sK xs vs=true->vV [] xs vs/\∀u∈vs,u.oneCell'=true
 | [],[],_=>by simp[vV]
 | [],v::vs,h=>by simp[sK]at h
 |x::xs,[],h=>by simp[sK]at h
 |x::xs,v::vs,h=>by
  simp only[sK,zj]at h;obtain⟨h1,h2⟩:=PV h.2;obtain⟨h3,h4⟩:=IZ h.1;simp only[vV];refine⟨⟨v,vs,rfl,h3,h1⟩,fun u hu=>?_⟩;rcases zL.1 hu with e|hu
  rw[e];exact h4;exact h2 u hu
def aW(P:Program)(T:wU)(t:TypeId):Bool:=
 match qE T t with
 |false=>WC (T.zero t) 0&& (match T.flat t with|none=>true|some _=>false)
 |true=>
  (match P.underlying t with|some d=>mH T t (T.sh t) d|none=>false)&&
  (match P.info? t with
    |some i=>Nat.beq i.size (T.size t)&&Nat.beq i.bytes (T.bytes t)&&
     (match T.zero t with
       | []=>true
       |c::cs=>match i.zero with
        |some z=>sK (c::cs) z.cells.toList&&WC (c::cs) (T.size t)&& (match YF T t (c::cs)with|some _=>true|none=>false)&&
         (match UB (T.sh t),z with|true, .agg _=>true|false, .agg _=>false|false, .tuple _=>false|true,_=>false|false,_=>true)
        |none=>false)
    |none=>false)&&
  (match T.flat t with|none=>true|some _=>match P.eqGuardType P.depth t with|true=>false|false=>true)
def QX:CK->CK->Bool
 | .int k, .int k'=>XQ k k'
 | .str, .str=>true
 | .bool, .bool=>true
 |_,_=>false
def sL:List CK->List CK->Bool
 | [],[]=>true
 |a::x,b::bs=>QX a b&&sL x bs
 |_,_=>false
theorem Dm:∀{a b:List CK},sL a b=true->a=b
 | [],[],_=>rfl
 | [],b::bs,h=>by simp[sL]at h
 |a::x,[],h=>by simp[sL]at h
 |a::x,b::bs,h=>by
  simp only[sL,zj]at h;rw[Dm h.2]
  have:a=b:=by
   have h1:=h.1;cases a<;>cases b<;>simp[QX]at h1<;>first|rfl|(rw[wN.1 h1])
  rw[this]
def Fi(P:Program)(T:wU)(t:TypeId):Bool:=
 match T.flat t with
 |none=>true
 |some ks=>match VO P 9 t with
  |some ks'=>sL ks ks'&&ZZ P t
  |none=>false
def pN(P:Program)(T:wU)(t:TypeId):Bool:=
 match T.key t with
 |none=>true
 |some (b,ks)=>match VO P 9 t with
  |some ks'=>sL ks ks'&& (b==ZZ P t)
  |none=>false
theorem Dn{P:Program}{t:TypeId}{K:Env}{a:SV}{u:Value}{xs:List SV}(h:ZT (ZZ P t) a=some xs)(hd:Den K a u):∃us,vV K xs us/\XV P t us u:=by
 cases hb:ZZ P t with
 |true=>
  rw[hb]at h;cases a with
  |agg cs=>
   simp only[ZT,zi]at h;subst h;simp only[Den]at hd;obtain⟨vs,rfl,h1,_⟩:=hd;exact⟨vs,h1,by simp[XV,hb]⟩
  |_=>simp[ZT]at h
 |false=>
  rw[hb]at h;simp only[ZT,zi]at h;subst h;exact⟨[u],by simp only[vV];exact⟨u,[],rfl,hd,rfl⟩,by simp[XV,hb]⟩
theorem PW{ks:Bool×List CK}{a b:SV}{r:Bool}(h:V4 ks a b=some r):∃xs ys,ZT ks.1 a=some xs/\ZT ks.1 b=some ys/\Zi ks.2 xs ys=some r:=by
 unfold V4 at h;split at h
 case h_2=>cases h
 rename_i xs hx;split at h
 case h_2=>cases h
 rename_i ys hy;exact⟨xs,ys,hx,hy,h⟩
theorem Zjz{P:Program}{T:wU}{t:TypeId}{ks:Bool×List CK}(hk:T.key t=some ks)(h:pN P T t=true):
 (∀(w:World) (K:Env) (em:Bool) (a:SV) (u:Value),JF ks a=true->Den K a u->(Instr.checkKey em 10000 t u).run P w= .ok () w)/\
 (∀(w:World) (K:Env) (a b:SV) (u v:Value) (r:Bool),V4 ks a b=some r->Den K a u->Den K b v->(Op.equal t u v).run P w= .ok r w/\∀d,P.underlying t=some d->Instr.sameNow d u v=none\/Instr.sameNow d u v=some r)/\(∃d,P.underlying t=some d):=by
 obtain⟨b,ks⟩:=ks;unfold pN at h;rw[hk]at h;simp only at h;split at h
 case h_2=>cases h
 rename_i ks' hf;simp only[zj,xh]at h;obtain⟨h1,h2⟩:=h;have h1:=Dm h1;subst h1 h2;refine⟨fun w K em a u ho hd=>?_,fun w K a b u v r he hu hv=>?_,?_⟩
 .unfold JF at ho;cases he:V4 (ZZ P t,ks) a a with
  |none=>rw[he]at ho;cases ho
  |some r=>
   obtain⟨xs,ys,hx,hy,hc⟩:=PW he;obtain⟨us,g1,g2⟩:=Dn hx hd;exact Dk P 9 t ks hf 10000 (by omega) w em us u (by rw[Uh g1];exact(Ug hc).1) g2
 .obtain⟨xs,ys,hx,hy,hc⟩:=PW he;obtain⟨us,g1,g2⟩:=Dn hx hu;obtain⟨vs,g3,g4⟩:=Dn hy hv;refine⟨Fh P 9 t ks hf 10000 (by omega) w K xs ys us vs u v r hc g1 g3 g2 g4,fun d hd=>?_⟩;simp only[VO]at hf
  have bJ:∀{ck:CK},ZZ P t=false->Zi [ck] xs ys=some r->xs=[a]/\ys=[b]:=by
   intro ck ha hc;rw[ha]at hx hy;simp only[ZT,zi]at hx hy;exact⟨hx.symm,hy.symm⟩
  split at hf
  .rename_i k hk;have hag:ZZ P t=false:=by simp[ZZ,hk]
   rw[hk]at hd;cases hd;injection hf with hf;subst hf;obtain⟨rfl,rfl⟩:=bJ hag hc;obtain⟨m,p,rfl,rfl,rfl⟩:=PK hc;simp only[Den]at hu hv;subst hu hv;exact .inr (by simp[Instr.sameNow])
  .rename_i hk;have hag:ZZ P t=false:=by simp[ZZ,hk]
   rw[hk]at hd;cases hd;injection hf with hf;subst hf;obtain⟨rfl,rfl⟩:=bJ hag hc;obtain⟨m,p,rfl,rfl,rfl⟩:=PL hc;simp only[Den]at hu hv;subst hu hv;refine .inr ?_;simp only[Instr.sameNow];congr 1;show(m.toArray==p.toArray)=(m==p)
   simp
  .rename_i hk;have hag:ZZ P t=false:=by simp[ZZ,hk]
   rw[hk]at hd;cases hd;injection hf with hf;subst hf;obtain⟨rfl,rfl⟩:=bJ hag hc;obtain⟨m,p,rfl,rfl,rfl⟩:=PN hc;simp only[Den]at hu hv;subst hu hv;exact .inr (by simp[Instr.sameNow])
  .rename_i fs hk;rw[hk]at hd;cases hd;exact .inl (by simp[Instr.sameNow])
  .rename_i m e hk;rw[hk]at hd;cases hd;exact .inl (by simp[Instr.sameNow])
  cases hf
 .cases hu:P.underlying t with
  |some d=>exact⟨d,rfl⟩
  |none=>simp[VO,hu]at hf
def Fj(P:Program)(T:wU):Nat->Bool
 |0=>true
 |n+1=>aW P T n&& (Fi P T n&&pN P T n)&&Fj P T n
theorem UT{P:Program}{T:wU}:∀{n t:Nat},Fj P T n=true->t<n->aW P T t=true/\Fi P T t=true/\pN P T t=true
 |0,t,_,h=>by omega
 |n+1,t,h,ht=>by
  simp only[Fj,zj]at h;by_cases e:t=n
  subst e;exact⟨h.1.1,h.1.2.1,h.1.2.2⟩;exact UT h.2 (by omega)
theorem ZfN{P:Program}{T:wU}(n:Nat)(h:Fj P T n=true)(hout:∀t,n<=t->T.sh t= .other/\T.zero t=[]/\T.flat t=none/\T.key t=none):uC P T:=by
 have PY:∀t,T.sh t≠ .other->aW P T t=true/\Fi P T t=true/\pN P T t=true:=fun t ht=>UT h (by
  rcases zY t n with hl|hg
  exact hl
  exact absurd (hout t hg).1 ht)
 have okt:∀{t},T.sh t≠ .other->qE T t=true:=by
  intro t ht;unfold qE;split
  rename_i e;exact absurd e ht
  rfl
 have dI:∀t,T.sh t≠ .other->(∃d,P.underlying t=some d/\mH T t (T.sh t) d=true)/\(∃i,P.info? t=some i/\i.size=T.size t/\i.bytes=T.bytes t/\∀c cs,T.zero t=c::cs->∃z,i.zero=some z/\sK (c::cs) z.cells.toList=true/\(c::cs).length=T.size t/\(YF T t (c::cs)).isSome/\
  (UB (T.sh t)=true->z= .agg z.cells)/\(UB (T.sh t)=false->z.oneCell'=true))/\(T.flat t≠none->P.eqGuardType P.depth t=false):=by
  intro t ht;obtain⟨h1,_⟩:=PY t ht;unfold aW at h1;rw[okt ht]at h1;simp only[zj]at h1;obtain⟨⟨h1,h2⟩,h3⟩:=h1;refine⟨?_,?_,?_⟩
  .split at h1
   rename_i d hd;exact⟨d,hd,h1⟩;cases h1
  .split at h2
   case h_2=>cases h2
   rename_i i hi;simp only[zj]at h2;obtain⟨⟨h4,h5⟩,h6⟩:=h2;refine⟨i,hi,Zr h4,Zr h5,fun c cs hz=>?_⟩;rw[hz]at h6;simp only at h6;split at h6
   case h_2=>cases h6
   rename_i z Fk;simp only[zj]at h6;obtain⟨⟨⟨h7,h8⟩,h9⟩,h10⟩:=h6;refine⟨z,Fk,h7,qD.1 h8,?_,?_,?_⟩
   .split at h9
    rename_i e;rw[e];rfl;cases h9
   .intro ha;rw[ha]at h10;cases z<;>first|rfl|(simp at h10)
   .intro ha;rw[ha]at h10;cases z<;>first|rfl|(simp at h10)
  .intro hf;split at h3
   rename_i e;exact absurd e hf
   .split at h3
    cases h3
    rename_i e;exact e
 have lM:∀t,T.zero t≠ []->T.sh t≠ .other:=by
  intro t hz e;rcases zY t n with hl|hg
  .obtain⟨h1,_⟩:=UT h hl;unfold aW at h1;have:qE T t=false:=by simp[qE,e]
   rw[this]at h1;simp only[zj]at h1;exact hz (zM.1 (qD.1 h1.1))
  exact hz (hout t hg).2.1
 have fsh:∀t ks,T.flat t=some ks->T.sh t≠ .other:=by
  intro t ks hf e;rcases zY t n with hl|hg
  .obtain⟨h1,_⟩:=UT h hl;unfold aW at h1;have:qE T t=false:=by simp[qE,e]
   rw[this,hf]at h1;simp at h1
  rw[(hout t hg).2.2.1]at hf;cases hf
 have pO:∀t,((∃fs,T.sh t= .struct fs)\/(∃n e,T.sh t= .array n e))<->UB (T.sh t)=true:=by
  intro t;cases T.sh t<;>simp[UB]
 refine⟨?_,?_,?_,lM,?_,?_⟩
 .intro t ht;obtain⟨d,h1,h2⟩:=(dI t ht).1;exact⟨d,h1,IY h2⟩
 .intro t ht;obtain⟨i,h1,h2,h3,_⟩:=(dI t ht).2.1;exact⟨i,h1,h2,h3⟩
 .intro t ht hz;obtain⟨i,h1,h2,h3,h4⟩:=(dI t ht).2.1;cases Fk:T.zero t with
  |nil=>exact absurd Fk hz
  |cons c cs=>
   obtain⟨z,h5,h6,h7,h8,h9,h10⟩:=h4 c cs Fk;obtain⟨h11,h12⟩:=PV h6
   exact⟨i,z,h1,h5,h11,h12,h7,h8,fun ha=>h9 ((pO t).1 ha),fun ha=>h10 (by
    cases hb:UB (T.sh t)
    rfl
    exact absurd ((pO t).2 hb) ha)⟩
 .intro t ks hf;have hs:=fsh t ks hf;refine⟨(dI t hs).2.2 (by rw[hf];simp),?_⟩;have mI:=(PY t hs).2.1;unfold Fi at mI;rw[hf]at mI;simp only at mI;split at mI
  case h_2=>cases mI
  rename_i ks' hk;simp only[zj]at mI;rw[Dm mI.1];intro w K xs ys us vs r hc hu hv;exact Fh P 9 t ks' hk 10000 (by omega) w K xs ys us vs _ _ r hc hu hv (by simp[XV,mI.2]) (by simp[XV,mI.2])
 .intro t ks hk;refine Zjz hk ?_;rcases zY t n with hl|hg
  exact(UT h hl).2.2;rw[(hout t hg).2.2.2]at hk;cases hk
end Go.Sx
