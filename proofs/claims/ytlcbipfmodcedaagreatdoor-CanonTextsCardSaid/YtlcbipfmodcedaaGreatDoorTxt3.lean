/- 3. Conditions: none. -/
import Derived.Test.YtlcbipfmodcedaaGreatDoorTxt1
import Derived.Test.YtlcbipfmodcedaaGreatDoorTxt2
set_option linter.unusedVariables false
set_option linter.unusedSimpArgs false
namespace Go.Sx
open Go
def rU(T:kE)(t:TypeId):Sh->TypeDesc->Bool
 | .int k, .int k'=>J9 k k'
 | .bool, .bool=>true
 | .str, .string=>true
 | .ptr e, .pointer e'=>Nat.beq e e'
 | .slice e, .slice e'=>Nat.beq e e'
 | .array n e, .array n' e'=>Nat.beq n n'&&Nat.beq e e'&&Nat.beq (T.size t) (n*T.size e)&&jo T e
 | .struct fs, .struct fields=>(fields.toList.map fun f=>(f.offset,f.type))==fs&&fs.all fun p=>jo T p.2
 | .map k e, .map k' e'=>Nat.beq k k'&&Nat.beq e e'
 | .iface, .interface _=>true
 | .func, .func _ _ _=>true
 | .plain, .float _=>true
 | .plain, .complex _=>true
 | .plain, .chan _ _=>true
 | .plain, .unsafePointer=>true
 | .plain, .tuple _=>true
 |_,_=>false
theorem Zl8{T:kE}{t:TypeId}{sh:Sh}{d:TypeDesc}(h:rU T t sh d=true):jg T t sh d:=by
 have ok:∀{e},jo T e=true->T.sh e≠ .other:=fun h e=>by simp[jo,e]at h
 cases sh<;>cases d<;>simp only[rU,Bool.false_eq_true,zk]at h<;>simp only[jg]
 rw[kf.1 h];rw[Zs h];rw[Zs h]
 .obtain⟨⟨⟨h1,h2⟩,h3⟩,h4⟩:=h;exact⟨by rw[Zs h1,Zs h2],Zs h3,ok h4⟩
 .obtain⟨h1,h2⟩:=h;exact⟨_,rfl,by simpa using h1,fun p hp=>ok (zR.1 h2 p hp)⟩
 obtain⟨h1,h2⟩:=h;rw[Zs h1,Zs h2];exact⟨_,rfl⟩;exact⟨_,_,_,rfl⟩
def CN:SV->Value->Bool
 | .bool a, .bool b=>a==b
 | .int k a, .int k' b=>J9 k k'&&a==b
 | .str [], .string s=>s.data.toList.isEmpty
 | .val (.pointer none), .pointer none=>true
 | .val (.slice none 0 0), .slice none 0 0=>true
 | .val (.map none), .map none=>true
 | .val (.chan none), .chan none=>true
 | .val .nilFunc, .nilFunc=>true
 | .val .nilIface, .nilIface=>true
 |_,_=>false
def iW:List SV->List Value->Bool
 | [],[]=>true
 |x::xs,y::ys=>CN x y&&iW xs ys
 |_,_=>false
theorem Zjk{x:SV}{v:Value}(h:CN x v=true):Den [] x v/\v.oneCell'=true:=by
 unfold CN at h;split at h
 case h_10=>cases h
 .rename_i a b;have:a=b:=by simpa using h
  subst this;exact⟨rfl,rfl⟩
 .simp only[zk]at h;rename_i k a k' b;have h2:a=b:=by simpa using h.2
  rw[kf.1 h.1,h2];exact⟨rfl,rfl⟩
 .rename_i s;have h2:s.data.toList=[]:=by simpa using h
  refine⟨?_,rfl⟩;simp only[Den];congr 1;apply uR;apply yC;simpa using h2
 all_goals exact⟨⟨rfl,rfl⟩,rfl⟩
theorem MJ:∀{xs:List SV} {vs:List Value},iW xs vs=true->w6 [] xs vs/\∀u∈vs,u.oneCell'=true
 | [],[],_=>by simp[w6]
 | [],v::vs,h=>by simp[iW]at h
 |x::xs,[],h=>by simp[iW]at h
 |x::xs,v::vs,h=>by
  simp only[iW,zk]at h;obtain⟨h1,h2⟩:=MJ h.2;obtain⟨h3,h4⟩:=Zjk h.1;simp only[w6];refine⟨⟨v,vs,rfl,h3,h1⟩,fun u hu=>?_⟩;rcases zK.1 hu with e|hu
  rw[e];exact h4;exact h2 u hu
def nc(P:Program)(T:kE)(t:TypeId):Bool:=
 match jo T t with
 |false=>o6 (T.zero t) 0&& (match T.flat t with|none=>true|some _=>false)
 |true=>
  (match P.underlying t with|some d=>rU T t (T.sh t) d|none=>false)&&
  (match P.info? t with
    |some i=>Nat.beq i.size (T.size t)&&Nat.beq i.bytes (T.bytes t)&&
     (match T.zero t with
       | []=>true
       |c::cs=>match i.zero with
        |some z=>iW (c::cs) z.cells.toList&&o6 (c::cs) (T.size t)&& (match YH T t (c::cs)with|some _=>true|none=>false)&&
         (match UR (T.sh t),z with|true, .agg _=>true|false, .agg _=>false|false, .tuple _=>false|true,_=>false|false,_=>true)
        |none=>false)
    |none=>false)&&
  (match T.flat t with|none=>true|some _=>match P.eqGuardType P.depth t with|true=>false|false=>true)
def Gq:CK->CK->Bool
 | .int k, .int k'=>J9 k k'
 | .str, .str=>true
 | .bool, .bool=>true
 |_,_=>false
def iX:List CK->List CK->Bool
 | [],[]=>true
 |a::x,b::bs=>Gq a b&&iX x bs
 |_,_=>false
theorem CO:∀{a b:List CK},iX a b=true->a=b
 | [],[],_=>rfl
 | [],b::bs,h=>by simp[iX]at h
 |a::x,[],h=>by simp[iX]at h
 |a::x,b::bs,h=>by
  simp only[iX,zk]at h;rw[CO h.2]
  have:a=b:=by
   have h1:=h.1;cases a<;>cases b<;>simp[Gq]at h1<;>first|rfl|(rw[kf.1 h1])
  rw[this]
def HT(P:Program)(T:kE)(t:TypeId):Bool:=
 match T.flat t with
 |none=>true
 |some ks=>match VY P 9 t with
  |some ks'=>iX ks ks'&&ZZ P t
  |none=>false
def mO(P:Program)(T:kE)(t:TypeId):Bool:=
 match T.key t with
 |none=>true
 |some (b,ks)=>match VY P 9 t with
  |some ks'=>iX ks ks'&& (b==ZZ P t)
  |none=>false
theorem CP{P:Program}{t:TypeId}{K:Env}{a:SV}{u:Value}{xs:List SV}(h:Yg (ZZ P t) a=some xs)(hd:Den K a u):∃us,w6 K xs us/\J1 P t us u:=by
 cases hb:ZZ P t with
 |true=>
  rw[hb]at h;cases a with
  |agg cs=>
   simp only[Yg,zj]at h;subst h;simp only[Den]at hd;obtain⟨vs,rfl,h1,_⟩:=hd;exact⟨vs,h1,by simp[J1,hb]⟩
  |_=>simp[Yg]at h
 |false=>
  rw[hb]at h;simp only[Yg,zj]at h;subst h;exact⟨[u],by simp only[w6];exact⟨u,[],rfl,hd,rfl⟩,by simp[J1,hb]⟩
theorem MK{ks:Bool×List CK}{a b:SV}{r:Bool}(h:Uo ks a b=some r):∃xs ys,Yg ks.1 a=some xs/\Yg ks.1 b=some ys/\Zk ks.2 xs ys=some r:=by
 unfold Uo at h;split at h
 case h_2=>cases h
 rename_i xs hx;split at h
 case h_2=>cases h
 rename_i ys hy;exact⟨xs,ys,hx,hy,h⟩
theorem Zl9{P:Program}{T:kE}{t:TypeId}{ks:Bool×List CK}(hk:T.key t=some ks)(h:mO P T t=true):
 (∀(w:World) (K:Env) (em:Bool) (a:SV) (u:Value),Vz ks a=true->Den K a u->(Instr.checkKey em 10000 t u).run P w= .ok () w)/\
 (∀(w:World) (K:Env) (a b:SV) (u v:Value) (r:Bool),Uo ks a b=some r->Den K a u->Den K b v->(Op.equal t u v).run P w= .ok r w/\∀d,P.underlying t=some d->Instr.sameNow d u v=none\/Instr.sameNow d u v=some r)/\(∃d,P.underlying t=some d):=by
 obtain⟨b,ks⟩:=ks;unfold mO at h;rw[hk]at h;simp only at h;split at h
 case h_2=>cases h
 rename_i ks' hf;simp only[zk,x5]at h;obtain⟨h1,h2⟩:=h;have h1:=CO h1;subst h1 h2;refine⟨fun w K em a u ho hd=>?_,fun w K a b u v r he hu hv=>?_,?_⟩
 .unfold Vz at ho;cases he:Uo (ZZ P t,ks) a a with
  |none=>rw[he]at ho;cases ho
  |some r=>
   obtain⟨xs,ys,hx,hy,hc⟩:=MK he;obtain⟨us,g1,g2⟩:=CP hx hd;exact CM P 9 t ks hf 10000 (by omega) w em us u (by rw[Uz g1];exact(Uy hc).1) g2
 .obtain⟨xs,ys,hx,hy,hc⟩:=MK he;obtain⟨us,g1,g2⟩:=CP hx hu;obtain⟨vs,g3,g4⟩:=CP hy hv;refine⟨HS P 9 t ks hf 10000 (by omega) w K xs ys us vs u v r hc g1 g3 g2 g4,fun d hd=>?_⟩;simp only[VY]at hf
  have oI:∀{ck:CK},ZZ P t=false->Zk [ck] xs ys=some r->xs=[a]/\ys=[b]:=by
   intro ck ha hc;rw[ha]at hx hy;simp only[Yg,zj]at hx hy;exact⟨hx.symm,hy.symm⟩
  split at hf
  .rename_i k hk;have hag:ZZ P t=false:=by simp[ZZ,hk]
   rw[hk]at hd;cases hd;injection hf with hf;subst hf;obtain⟨rfl,rfl⟩:=oI hag hc;obtain⟨m,p,rfl,rfl,rfl⟩:=MB hc;simp only[Den]at hu hv;subst hu hv;exact .inr (by simp[Instr.sameNow])
  .rename_i hk;have hag:ZZ P t=false:=by simp[ZZ,hk]
   rw[hk]at hd;cases hd;injection hf with hf;subst hf;obtain⟨rfl,rfl⟩:=oI hag hc;obtain⟨m,p,rfl,rfl,rfl⟩:=MC hc;simp only[Den]at hu hv;subst hu hv;refine .inr ?_;simp only[Instr.sameNow];congr 1;show(m.toArray==p.toArray)=(m==p)
   simp
  .rename_i hk;have hag:ZZ P t=false:=by simp[ZZ,hk]
   rw[hk]at hd;cases hd;injection hf with hf;subst hf;obtain⟨rfl,rfl⟩:=oI hag hc;obtain⟨m,p,rfl,rfl,rfl⟩:=MD hc;simp only[Den]at hu hv;subst hu hv;exact .inr (by simp[Instr.sameNow])
  .rename_i fs hk;rw[hk]at hd;cases hd;exact .inl (by simp[Instr.sameNow])
  .rename_i m e hk;rw[hk]at hd;cases hd;exact .inl (by simp[Instr.sameNow])
  cases hf
 .cases hu:P.underlying t with
  |some d=>exact⟨d,rfl⟩
  |none=>simp[VY,hu]at hf
def HU(P:Program)(T:kE):Nat->Bool
 |0=>true
 |n+1=>nc P T n&& (HT P T n&&mO P T n)&&HU P T n
theorem Wb{P:Program}{T:kE}:∀{n t:Nat},HU P T n=true->t<n->nc P T t=true/\HT P T t=true/\mO P T t=true
 |0,t,_,h=>by omega
 |n+1,t,h,ht=>by
  simp only[HU,zk]at h;by_cases e:t=n
  subst e;exact⟨h.1.1,h.1.2.1,h.1.2.2⟩;exact Wb h.2 (by omega)
theorem Zh5{P:Program}{T:kE}(n:Nat)(h:HU P T n=true)(hout:∀t,n<=t->T.sh t= .other/\T.zero t=[]/\T.flat t=none/\T.key t=none):qa P T:=by
 have ML:∀t,T.sh t≠ .other->nc P T t=true/\HT P T t=true/\mO P T t=true:=fun t ht=>Wb h (by
  rcases y9 t n with hl|hg
  exact hl
  exact absurd (hout t hg).1 ht)
 have okt:∀{t},T.sh t≠ .other->jo T t=true:=by
  intro t ht;unfold jo;split
  rename_i e;exact absurd e ht
  rfl
 have bO:∀t,T.sh t≠ .other->(∃d,P.underlying t=some d/\rU T t (T.sh t) d=true)/\(∃i,P.info? t=some i/\i.size=T.size t/\i.bytes=T.bytes t/\∀c cs,T.zero t=c::cs->∃z,i.zero=some z/\iW (c::cs) z.cells.toList=true/\(c::cs).length=T.size t/\(YH T t (c::cs)).isSome/\
  (UR (T.sh t)=true->z= .agg z.cells)/\(UR (T.sh t)=false->z.oneCell'=true))/\(T.flat t≠none->P.eqGuardType P.depth t=false):=by
  intro t ht;obtain⟨h1,_⟩:=ML t ht;unfold nc at h1;rw[okt ht]at h1;simp only[zk]at h1;obtain⟨⟨h1,h2⟩,h3⟩:=h1;refine⟨?_,?_,?_⟩
  .split at h1
   rename_i d hd;exact⟨d,hd,h1⟩;cases h1
  .split at h2
   case h_2=>cases h2
   rename_i i hi;simp only[zk]at h2;obtain⟨⟨h4,h5⟩,h6⟩:=h2;refine⟨i,hi,Zs h4,Zs h5,fun c cs hz=>?_⟩;rw[hz]at h6;simp only at h6;split at h6
   case h_2=>cases h6
   rename_i z HV;simp only[zk]at h6;obtain⟨⟨⟨h7,h8⟩,h9⟩,h10⟩:=h6;refine⟨z,HV,h7,jl.1 h8,?_,?_,?_⟩
   .split at h9
    rename_i e;rw[e];rfl;cases h9
   .intro ha;rw[ha]at h10;cases z<;>first|rfl|(simp at h10)
   .intro ha;rw[ha]at h10;cases z<;>first|rfl|(simp at h10)
  .intro hf;split at h3
   rename_i e;exact absurd e hf
   .split at h3
    cases h3
    rename_i e;exact e
 have sY:∀t,T.zero t≠ []->T.sh t≠ .other:=by
  intro t hz e;rcases y9 t n with hl|hg
  .obtain⟨h1,_⟩:=Wb h hl;unfold nc at h1;have:jo T t=false:=by simp[jo,e]
   rw[this]at h1;simp only[zk]at h1;exact hz (zJ.1 (jl.1 h1.1))
  exact hz (hout t hg).2.1
 have fsh:∀t ks,T.flat t=some ks->T.sh t≠ .other:=by
  intro t ks hf e;rcases y9 t n with hl|hg
  .obtain⟨h1,_⟩:=Wb h hl;unfold nc at h1;have:jo T t=false:=by simp[jo,e]
   rw[this,hf]at h1;simp at h1
  rw[(hout t hg).2.2.1]at hf;cases hf
 have mP:∀t,((∃fs,T.sh t= .struct fs)\/(∃n e,T.sh t= .array n e))<->UR (T.sh t)=true:=by
  intro t;cases T.sh t<;>simp[UR]
 refine⟨?_,?_,?_,sY,?_,?_⟩
 .intro t ht;obtain⟨d,h1,h2⟩:=(bO t ht).1;exact⟨d,h1,Zl8 h2⟩
 .intro t ht;obtain⟨i,h1,h2,h3,_⟩:=(bO t ht).2.1;exact⟨i,h1,h2,h3⟩
 .intro t ht hz;obtain⟨i,h1,h2,h3,h4⟩:=(bO t ht).2.1;cases HV:T.zero t with
  |nil=>exact absurd HV hz
  |cons c cs=>
   obtain⟨z,h5,h6,h7,h8,h9,h10⟩:=h4 c cs HV;obtain⟨h11,h12⟩:=MJ h6
   exact⟨i,z,h1,h5,h11,h12,h7,h8,fun ha=>h9 ((mP t).1 ha),fun ha=>h10 (by
    cases hb:UR (T.sh t)
    rfl
    exact absurd ((mP t).2 hb) ha)⟩
 .intro t ks hf;have hs:=fsh t ks hf;refine⟨(bO t hs).2.2 (by rw[hf];simp),?_⟩;have rV:=(ML t hs).2.1;unfold HT at rV;rw[hf]at rV;simp only at rV;split at rV
  case h_2=>cases rV
  rename_i ks' hk;simp only[zk]at rV;rw[CO rV.1];intro w K xs ys us vs r hc hu hv;exact HS P 9 t ks' hk 10000 (by omega) w K xs ys us vs _ _ r hc hu hv (by simp[J1,rV.2]) (by simp[J1,rV.2])
 .intro t ks hk;refine Zl9 hk ?_;rcases y9 t n with hl|hg
  exact(Wb h hl).2.2;rw[(hout t hg).2.2.2]at hk;cases hk
